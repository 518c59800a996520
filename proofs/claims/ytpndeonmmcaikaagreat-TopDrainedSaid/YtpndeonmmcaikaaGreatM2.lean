/- Part 2 of 5 of what the proofs of this seat stand on: a small logic for walks, what the functions come to, and the walks themselves. No condition of its own. -/
import Derived.Test.YtpndeonmmcaikaaGreatM1
import Derived.ChangeKeysEq
import Derived.Maps.Keyed
import Derived.OrdersIn
import Derived.Deep.Slices
import Derived.ProofKit
import Derived.OpenShut
set_option linter.unusedVariables false
set_option linter.unusedSimpArgs false
set_option linter.unusedSectionVars false
namespace Foot4
open Go Go.G
def T3.put (t : T3) (k : Nat) (x : Int) : T3 := if k = 0 then ⟨x, t.b, t.c⟩ else if k = 1 then ⟨t.a, x, t.c⟩ else ⟨t.a, t.b, x⟩
@[reducible] def encI (x : Int) : List Value := [i64 x]
@[reducible] def encU (x : Int) : List Value := [.int .u16 x]
def U16s (by_ : List Int) : Prop := ∀ x ∈ by_, 0 ≤ x ∧ x ≤ 65535
structure Tru where
  rain : List Int
  first : List Int
def wS (F : Work) (t : Tru) (heap : Nat) (p : T3) : Nat → Int × Nat
  | 0 => (t.first.getD heap 0, 0)
  | d + 1 =>
    let s := wS F t heap p d
    let k := if s.2 < 3 ∧ p.at s.2 = d then s.2 + 1 else s.2
    (if k < 3 then step s.1 (t.rain.getD d 0) (F.dr.at k) else s.1, k)
def wetT (F : Work) (t : Tru) (heap : Nat) (p : T3) (d : Nat) : Int := (wS F t heap p d).1
def keepsB (F : Work) (t : Tru) (heap : Nat) (p : T3) (i : Nat) : Prop := p.at i < 0 ∨ wetT F t heap p (p.at i).toNat ≤ F.lim.at i
instance (F : Work) (t : Tru) (heap : Nat) (p : T3) (i : Nat) : Decidable (keepsB F t heap p i) := by unfold keepsB; infer_instance
def keepsT (F : Work) (t : Tru) (heap : Nat) (p : T3) : Prop := ∀ i, i < 3 → keepsB F t heap p i
instance (F : Work) (t : Tru) (heap : Nat) (p : T3) : Decidable (keepsT F t heap p) := by unfold keepsT; infer_instance
theorem encI_len (x : Int) : (encI x).length = 1 := rfl
end Foot4
namespace Foot4
open Go Go.G
section
variable {F : Work} {t : Tru} {heap : Nat} {p : T3} {k w : Nat} {n : Int}
end
end Foot4

namespace Sod2
open Go Go.G Foot4
structure TruS (B : Bank) (c : T3) (n : Nat → Int) : Prop where
  zero : n 0 = 0
  day : ∀ d, d < B.days.length → (B.days.getD d default).lo ≤ n (d + 1) - n d ∧ n (d + 1) - n d ≤ (B.days.getD d default).hi
  log : ∀ k, k < B.logs.length → (B.logs.getD k default).lo ≤ sodsOf B c (n ((B.logs.getD k default).day.toNat + 1)) ∧ sodsOf B c (n ((B.logs.getD k default).day.toNat + 1)) ≤ (B.logs.getD k default).hi
theorem TruS.bd {B : Bank} {c : T3} {n : Nat → Int} (hg : GoodS B) (h : TruS B c n) : ∀ d, d ≤ B.days.length → 0 ≤ n d ∧ n d ≤ 100 * d
  | 0, _ => by rw [h.zero]; omega
  | d + 1, hd => by
    have h1 := h.bd hg d (by omega)
    have h2 := h.day d (by omega)
    have h3 := hg.2.2.2.2.1 d (by omega)
    push_cast; omega
end Sod2

namespace Sod2
open Go Go.G Foot4
def drawT (bys : List Int) (k : Nat) (s : Span) : Int :=
  if (bys.length : Int) = 0 then s.lo else s.lo + (bys.getD (k % bys.length) 0 + 79 * k).tmod (s.hi - s.lo + 1)
theorem drawT_0 {bys : List Int} {k : Nat} {s : Span} (h : (bys.length : Int) = 0) : drawT bys k s = s.lo := if_pos h
theorem drawT_1 {bys : List Int} {k : Nat} {s : Span} (h : ¬ (bys.length : Int) = 0) : drawT bys k s = s.lo + (bys.getD (k % bys.length) 0 + 79 * k).tmod (s.hi - s.lo + 1) := if_neg h
def InD (f : Nat → Span → Int) : Prop := ∀ k s, s.lo ≤ s.hi → s.lo ≤ f k s ∧ f k s ≤ s.hi
theorem drawT_in {bys : List Int} (hu : U16s bys) : InD (drawT bys) := fun k s h => by
  unfold drawT
  split
  · omega
  · have h0 : 0 ≤ bys.getD (k % bys.length) 0 := by
      by_cases hl : k % bys.length < bys.length
      · have hm : bys.getD (k % bys.length) 0 ∈ bys := by simp [List.getD_eq_getElem?_getD, hl]
        exact (hu _ hm).1
      · simp [List.getD_eq_getElem?_getD, List.getElem?_eq_none (by omega : bys.length ≤ k % bys.length)]
    have h1 := Int.tmod_nonneg (s.hi - s.lo + 1) (show 0 ≤ bys.getD (k % bys.length) 0 + 79 * (k : Int) by omega)
    have h2 := Int.tmod_lt_of_pos (bys.getD (k % bys.length) 0 + 79 * (k : Int)) (show 0 < s.hi - s.lo + 1 by omega)
    omega
section
variable {f : Nat → Span → Int} {k0 : Nat} {B : Bank} (hf : InD f) (hg : GoodS B)
include hf hg
end
end Sod2

namespace Foot4
open Go Go.G
theorem none_plan (n : Nat) (hn : 1 ≤ n) : IsPlan n noneT := by
  refine ⟨fun k hk => ?_, .inr (.inl rfl), ord1.2 (.inl (by decide)), ord2.2 (.inl (by decide))⟩
  obtain rfl | rfl | rfl : k = 0 ∨ k = 1 ∨ k = 2 := by omega
  all_goals (show -1 ≤ (-1 : Int) ∧ (-1 : Int) ≤ n - 1; omega)
end Foot4

namespace Foot4
open Go Go.G
theorem whole_in {n : Nat} {p : T3} (hp : IsPlan n p) (hw : 0 ≤ p.a ∧ 0 ≤ p.b ∧ 0 ≤ p.c) : p ∈ whole n := by
  have h1 := ord1.1 hp.2.2.1
  have h2 := ord2.1 hp.2.2.2
  have h3 : -1 ≤ p.c ∧ p.c ≤ (n : Int) - 1 := hp.1 2 (by omega)
  obtain ⟨a, b, c⟩ := p
  dsimp only at *
  have := whole_at (n := n) (a := a.toNat) (b := b.toNat) (c := c.toNat) (by omega) (by omega) (by omega)
  rw [show ((a.toNat : Nat) : Int) = a from by omega, show ((b.toNat : Nat) : Int) = b from by omega, show ((c.toNat : Nat) : Int) = c from by omega] at this
  exact List.mem_of_getElem? this
theorem whole_plan' {n : Nat} {p : T3} (h : p ∈ whole n) : IsPlan n p ∧ (0 ≤ p.a ∧ 0 ≤ p.b ∧ 0 ≤ p.c) := by
  obtain ⟨a, b, c, rfl, h1, h2, h3⟩ := whole_mem h
  refine ⟨⟨fun k hk => ?_, .inr (.inl rfl), ord1.2 (.inr ⟨by show (0 : Int) ≤ a; omega, by show (a : Int) < b; omega⟩), ord2.2 (.inr ⟨by show (0 : Int) ≤ b; omega, by show (b : Int) < c; omega⟩)⟩, by show (0 : Int) ≤ a; omega, by show (0 : Int) ≤ b; omega, by show (0 : Int) ≤ c; omega⟩
  have := whole_days h k hk
  omega
theorem sure_of {sel : Int → Int → Int} {F : Work} {heap : Nat} {p : T3} (hp : IsPlan F.rain.length p) (hw : 0 ≤ p.a ∧ 0 ≤ p.b ∧ 0 ≤ p.c) (hk : keptF sel F heap p) : p ∈ sureF sel F heap :=
  List.mem_filter.2 ⟨whole_in hp hw, by simp [keptB, hk]⟩
def lex (p q : T3) : Prop := p.a < q.a ∨ p.a = q.a ∧ (p.b < q.b ∨ p.b = q.b ∧ p.c < q.c)
theorem whole_sorted (n : Nat) : (whole n).Pairwise lex := by
  have hcs : ∀ a b : Nat, (cs3 n a b).Pairwise lex := by
    intro a b
    unfold cs3
    rw [List.pairwise_map]
    refine List.Pairwise.imp ?_ (List.pairwise_lt_range' 1)
    intro c d h
    exact .inr ⟨rfl, .inr ⟨rfl, by show (c : Int) < d; omega⟩⟩
  have hbs : ∀ a : Nat, (bs3 n a).Pairwise lex := by
    intro a
    unfold bs3
    rw [List.pairwise_flatMap]
    refine ⟨fun b _ => hcs a b, List.Pairwise.imp ?_ (List.pairwise_lt_range' 1)⟩
    intro b b' h x hx y hy
    unfold cs3 at hx hy
    obtain ⟨c, _, rfl⟩ := List.mem_map.1 hx
    obtain ⟨c', _, rfl⟩ := List.mem_map.1 hy
    exact .inr ⟨rfl, .inl (by show (b : Int) < b'; omega)⟩
  unfold whole
  rw [List.pairwise_flatMap]
  refine ⟨fun a _ => hbs a, List.pairwise_lt_range.imp ?_⟩
  intro a a' h x hx y hy
  unfold bs3 at hx hy
  obtain ⟨b, _, hx⟩ := List.mem_flatMap.1 hx
  obtain ⟨b', _, hy⟩ := List.mem_flatMap.1 hy
  unfold cs3 at hx hy
  obtain ⟨c, _, rfl⟩ := List.mem_map.1 hx
  obtain ⟨c', _, rfl⟩ := List.mem_map.1 hy
  exact .inl (by show (a : Int) < a'; omega)
end Foot4

namespace Foot4
open Go Go.G
end Foot4

namespace Foot4
open Go Go.G
theorem bestG {α : Type} {bt : α → α → Bool} {z : α} {key : α → Int} (hbt : ∀ x y, bt x y = decide (key y < key x)) {l : List α} : ∀ k, 0 < k → k ≤ l.length →
    ∃ i, i < k ∧ l.getD i z = best1 bt z l k ∧ (∀ j, j < k → key (l.getD j z) ≤ key (best1 bt z l k)) ∧ (∀ j, j < i → key (l.getD j z) < key (best1 bt z l k))
  | 0, h, _ => by omega
  | k + 1, _, hl => by
    by_cases h0 : k = 0
    · subst h0
      rw [best1_yes (.inl rfl)]
      refine ⟨0, by omega, rfl, fun j hj => ?_, fun j hj => by omega⟩
      obtain rfl : j = 0 := by omega
      exact Int.le_refl _
    · obtain ⟨i, hi, he, ha, hb⟩ := bestG hbt (l := l) (z := z) k (by omega) (by omega)
      by_cases hs : key (best1 bt z l k) < key (l.getD k z)
      · rw [best1_yes (.inr (by rw [hbt]; exact decide_eq_true hs))]
        refine ⟨k, by omega, rfl, fun j hj => ?_, fun j hj => ?_⟩
        · by_cases e : j = k
          · subst e; exact Int.le_refl _
          · have := ha j (by omega); omega
        · have := ha j (by omega); omega
      · rw [best1_no h0 (by rw [hbt]; exact fun x => hs (of_decide_eq_true x))]
        refine ⟨i, by omega, he, fun j hj => ?_, hb⟩
        by_cases e : j = k
        · subst e; omega
        · exact ha j (by omega)
def wholeB' (p : T3) : Prop := 0 ≤ p.a ∧ 0 ≤ p.b ∧ 0 ≤ p.c
instance (p : T3) : Decidable (wholeB' p) := by unfold wholeB'; infer_instance
def Right (F : Work) (men : Int) : Nat → List Int → List T3 → Prop
  | 0, _, Q => Q = []
  | r + 1, B, Q => ∃ p Q', Q = p :: Q' ∧ IsPlan F.rain.length p ∧ keptF selW F (F.heaps.length - (r + 1)) p ∧ (∀ j, j < 3 → 0 ≤ p.at j → B.getD (p.at j).toNat 0 < men) ∧ Right F men r (with_ B p) Q'
def total (F : Work) : Nat → List T3 → Int
  | 0, _ => 0
  | r + 1, Q => (if wholeB' (Q.headD default) then (F.heaps.getD (F.heaps.length - (r + 1)) default).sods else 0) + total F r Q.tail
def bl (F : Work) (men : Int) : Nat → List Int → List T3
  | 0, _ => []
  | r + 1, B => (bestW F men (r + 1) B).plan :: bl F men r (with_ B (bestW F men (r + 1) B).plan)
def lexL : List T3 → List T3 → Prop
  | a :: l, b :: q => lex a b ∨ a = b ∧ lexL l q
  | [], _ => True
  | _, [] => False
def leB (B B' : List Int) : Prop := ∀ d : Int, 0 ≤ d ∧ d ≤ 7 → B.getD d.toNat 0 ≤ B'.getD d.toNat 0
theorem plan_at7 {n : Nat} (hn : n ≤ 8) {p : T3} (h : IsPlan n p) {k : Nat} (hk : k < 3) : p.at k ≤ 7 := by have := h.1 k hk; omega
theorem with_at {n : Nat} (hn : n ≤ 8) {B : List Int} (hB : B.length = 8) {p : T3} (h : IsPlan n p) {d : Int} (hd : 0 ≤ d ∧ d ≤ 7) : (with_ B p).getD d.toNat 0 = B.getD d.toNat 0 + cnt p d 3 :=
  withTo_at hB hd (fun _ hk => plan_at7 hn h hk) 3 (Nat.le_refl _)
theorem leB_with {n : Nat} (hn : n ≤ 8) {B B' : List Int} (hB : B.length = 8) (hB' : B'.length = 8) {p : T3} (h : IsPlan n p) (hl : leB B B') : leB (with_ B p) (with_ B' p) := fun d hd => by
  rw [with_at hn hB h hd, with_at hn hB' h hd]
  have := hl d hd; omega
theorem leB_self {n : Nat} (hn : n ≤ 8) {B : List Int} (hB : B.length = 8) {p : T3} (h : IsPlan n p) : leB B (with_ B p) := fun d hd => by
  rw [with_at hn hB h hd]
  have := cnt_bd p d 3; omega
theorem Right.anti {F : Work} (hn : F.rain.length ≤ 8) {men : Int} : ∀ {r : Nat} {B B' : List Int} {Q : List T3}, B.length = 8 → B'.length = 8 → leB B B' → Right F men r B' Q → Right F men r B Q
  | 0, _, _, _, _, _, _, h => h
  | r + 1, B, B', Q, h1, h2, hl, ⟨p, Q', e, hp, hk, hf, hr⟩ => by
    refine ⟨p, Q', e, hp, hk, fun j hj h0 => ?_, Right.anti hn (by rw [with_len, h1]) (by rw [with_len, h2]) (leB_with hn h1 h2 hp hl) hr⟩
    have := hf j hj h0
    have := hl (p.at j) ⟨h0, plan_at7 hn hp hj⟩
    omega
theorem with_none {B : List Int} : with_ B noneT = B := by
  unfold with_
  simp only [withTo]
  rfl
theorem Right.len {F : Work} {men : Int} : ∀ {r : Nat} {B : List Int} {Q : List T3}, Right F men r B Q → Q.length = r
  | 0, _, _, h => by
    have h : _ = [] := h
    rw [h]; rfl
  | r + 1, _, _, ⟨p, Q', e, _, _, _, hr⟩ => by rw [e, List.length_cons, hr.len]
theorem none_lt {n : Nat} {p : T3} (h : IsPlan n p) (hne : p ≠ noneT) : lex noneT p := by
  have h1 := ord1.1 h.2.2.1
  have h2 := ord2.1 h.2.2.2
  have g0 : -1 ≤ p.a ∧ _ := h.1 0 (by omega)
  have g1 : -1 ≤ p.b ∧ _ := h.1 1 (by omega)
  have g2 : -1 ≤ p.c ∧ _ := h.1 2 (by omega)
  obtain ⟨a, b, c⟩ := p
  dsimp only at *
  show (-1 : Int) < a ∨ (-1 : Int) = a ∧ ((-1 : Int) < b ∨ (-1 : Int) = b ∧ (-1 : Int) < c)
  by_cases e : a = -1
  · have e2 : b = -1 := by omega
    have e3 : c = -1 := by omega
    subst e e2 e3
    exact absurd rfl hne
  · exact .inl (by omega)
theorem free_iff {men : Int} {B : List Int} {p : T3} (hw : wholeB' p) : freeB men B p = true ↔ ∀ j, j < 3 → 0 ≤ p.at j → B.getD (p.at j).toNat 0 < men := by
  unfold freeB
  simp only [List.any_cons, List.any_nil, Bool.or_false, Bool.not_eq_true', Bool.or_eq_false_iff, decide_eq_false_iff_not]
  constructor
  · rintro ⟨h0, h1, h2⟩ j hj _
    obtain rfl | rfl | rfl : j = 0 ∨ j = 1 ∨ j = 2 := by omega
    · show B.getD p.a.toNat 0 < men; omega
    · show B.getD p.b.toNat 0 < men; omega
    · show B.getD p.c.toNat 0 < men; omega
  · intro h
    have h0 : B.getD p.a.toNat 0 < men := h 0 (by omega) hw.1
    have h1 : B.getD p.b.toNat 0 < men := h 1 (by omega) hw.2.1
    have h2 : B.getD p.c.toNat 0 < men := h 2 (by omega) hw.2.2
    exact ⟨by omega, by omega, by omega⟩
end Foot4

namespace Foot4
open Go Go.G
abbrev wsF (F : Work) (men : Int) (r : Nat) (B : List Int) : List Way := waysW F men (F.heaps.length - (r + 1)) B (fun C => (bestW F men r C).sods) (sureF selW F (F.heaps.length - (r + 1)))
theorem ws_mem {F : Work} {men : Int} {r : Nat} {B : List Int} {w : Way} (h : w ∈ wsF F men r B) : (w = ⟨(bestW F men r B).sods, noneT⟩) ∨ ∃ p, w = ⟨(F.heaps.getD (F.heaps.length - (r + 1)) default).sods + (bestW F men r (with_ B p)).sods, p⟩ ∧ p ∈ sureF selW F (F.heaps.length - (r + 1)) ∧ freeB men B p = true := by
  rcases List.mem_cons.1 h with e | h
  · exact .inl e
  · obtain ⟨p, hp, e⟩ := List.mem_map.1 h
    have := List.mem_filter.1 hp
    exact .inr ⟨p, e.symm, this.1, this.2⟩
theorem none_kept (F : Work) (heap : Nat) : keptF selW F heap noneT := ⟨.inl (by decide), .inl (by decide), .inl (by decide)⟩
theorem bl_right {F : Work} (hg : GoodF F) {men : Int} : ∀ (r : Nat) (B : List Int), Right F men r B (bl F men r B) ∧ total F r (bl F men r B) = (bestW F men r B).sods
  | 0, _ => ⟨rfl, rfl⟩
  | r + 1, B => by
    have hm := wayL_mem (l := wsF F men r B) (by simp [wsF, waysW])
    have hb : bestW F men (r + 1) B = wayL (wsF F men r B) := rfl
    rw [← hb] at hm
    have h8 := hg.1
    show (∃ p Q', _ :: _ = p :: Q' ∧ _) ∧ (if wholeB' (bestW F men (r + 1) B).plan then _ else 0) + total F r (bl F men r (with_ B (bestW F men (r + 1) B).plan)) = _
    rcases ws_mem hm with e | ⟨p, e, hp, hf⟩
    · have ih := bl_right hg (men := men) r B
      rw [e]
      refine ⟨⟨_, _, rfl, none_plan _ (by omega), none_kept _ _, fun j hj h0 => ?_, ?_⟩, ?_⟩
      · obtain rfl | rfl | rfl : j = 0 ∨ j = 1 ∨ j = 2 := by omega
        all_goals (have h0 : (0 : Int) ≤ -1 := h0; omega)
      · show Right F men r (with_ B noneT) (bl F men r (with_ B noneT))
        rw [with_none]; exact ih.1
      · show (if wholeB' noneT then _ else 0) + total F r (bl F men r (with_ B noneT)) = (bestW F men r B).sods
        rw [if_neg (by decide), with_none, ih.2]; omega
    · have ih := bl_right hg (men := men) r (with_ B p)
      have hps := List.mem_filter.1 hp
      have hpl := whole_plan' hps.1
      rw [e]
      refine ⟨⟨_, _, rfl, hpl.1, by simpa [keptB] using hps.2, (free_iff hpl.2).1 hf, ih.1⟩, ?_⟩
      show (if wholeB' p then _ else 0) + total F r (bl F men r (with_ B p)) = _
      rw [if_pos (show wholeB' p from hpl.2), ih.2]
theorem best_opt {F : Work} (hg : GoodF F) {men : Int} : ∀ (r : Nat) (B : List Int) (Q : List T3), B.length = 8 → Right F men r B Q → total F r Q ≤ (bestW F men r B).sods ∧ (total F r Q = (bestW F men r B).sods → lexL (bl F men r B) Q)
  | 0, _, _, _, h => by
    have h : _ = [] := h
    subst h
    exact ⟨Int.le_refl _, fun _ => trivial⟩
  | r + 1, B, _, hB, ⟨p, Q, rfl, hp, hk, hf, hr⟩ => by
    have h8 := hg.1
    have hn : F.rain.length ≤ 8 := by omega
    have hpos : 0 < (wsF F men r B).length := by simp [wsF, waysW]
    obtain ⟨i, hi, he, ha, hb⟩ := bestG (bt := more) (z := default) (key := Way.sods) (fun _ _ => rfl) (l := wsF F men r B) _ hpos (Nat.le_refl _)
    have hw : best1 more default (wsF F men r B) (wsF F men r B).length = bestW F men (r + 1) B := rfl
    rw [hw] at he ha hb
    have hget : ∀ j, j < (wsF F men r B).length → (wsF F men r B)[j]? = some ((wsF F men r B).getD j default) := fun j hj => by simp [hj]
    have h0 : (wsF F men r B).getD 0 default = ⟨(bestW F men r B).sods, noneT⟩ := rfl
    by_cases hwp : wholeB' p
    · -- a whole plan
      have ih := best_opt hg (men := men) r (with_ B p) Q (by rw [with_len, hB]) hr
      have hps : p ∈ sureF selW F (F.heaps.length - (r + 1)) := sure_of hp hwp hk
      have hfr := (free_iff hwp).2 hf
      have htot : total F (r + 1) (p :: Q) = (F.heaps.getD (F.heaps.length - (r + 1)) default).sods + total F r Q := by
        show (if wholeB' p then _ else 0) + total F r Q = _
        rw [if_pos hwp]
      have hmw : (⟨(F.heaps.getD (F.heaps.length - (r + 1)) default).sods + (bestW F men r (with_ B p)).sods, p⟩ : Way) ∈ wsF F men r B :=
        List.mem_cons_of_mem _ (List.mem_map.2 ⟨p, List.mem_filter.2 ⟨hps, hfr⟩, rfl⟩)
      obtain ⟨j, hj⟩ := List.mem_iff_getElem?.1 hmw
      have hjl := (List.getElem?_eq_some_iff.1 hj).1
      have hje := Option.some.inj ((hget j hjl).symm.trans hj)
      have h1 := ha j hjl
      rw [hje] at h1
      have h1 : (F.heaps.getD (F.heaps.length - (r + 1)) default).sods + (bestW F men r (with_ B p)).sods ≤ (bestW F men (r + 1) B).sods := h1
      refine ⟨by rw [htot]; omega, fun heq => ?_⟩
      rw [htot] at heq
      have hsame : (F.heaps.getD (F.heaps.length - (r + 1)) default).sods + (bestW F men r (with_ B p)).sods = (bestW F men (r + 1) B).sods := by omega
      have hij : i ≤ j := by
        rcases Nat.lt_or_ge j i with h | h
        · have := hb j h
          rw [hje] at this
          have : (F.heaps.getD (F.heaps.length - (r + 1)) default).sods + (bestW F men r (with_ B p)).sods < (bestW F men (r + 1) B).sods := this
          omega
        · exact h
      show lex _ p ∨ _ = p ∧ _
      by_cases e : i = j
      · right
        subst e
        have e2 : (bestW F men (r + 1) B).plan = p := by rw [← he, hje]
        rw [e2]
        exact ⟨rfl, ih.2 (by omega)⟩
      · left
        -- the ways' plans stand in order
        have hso : (wsF F men r B).Pairwise (fun v w => lex v.plan w.plan ∨ True ∧ v.plan = noneT ∧ wholeB' w.plan) := by
          show List.Pairwise _ (_ :: _)
          rw [List.pairwise_cons]
          refine ⟨fun w hwm => ?_, ?_⟩
          · obtain ⟨q, hq, rfl⟩ := List.mem_map.1 hwm
            exact .inr ⟨trivial, rfl, (whole_plan' (List.mem_filter.1 (List.mem_filter.1 hq).1).1).2⟩
          · rw [List.pairwise_map]
            exact (((whole_sorted _).filter _).filter _).imp fun h => .inl h
        obtain ⟨l1, g1⟩ := List.getElem?_eq_some_iff.1 (hget i hi)
        obtain ⟨l2, g2⟩ := List.getElem?_eq_some_iff.1 hj
        have := List.pairwise_iff_getElem.1 hso i j l1 l2 (by omega)
        rw [g1, g2, he] at this
        rcases this with h | ⟨_, h2, h3⟩
        · exact h
        · rw [h2]
          refine none_lt hp (fun e => ?_)
          subst e
          have h3 : wholeB' noneT := h3
          exact absurd h3 (by decide)
    · -- no whole plan: the heap is not clamped
      have htot : total F (r + 1) (p :: Q) = total F r Q := by
        show (if wholeB' p then _ else 0) + total F r Q = _
        rw [if_neg hwp]; omega
      have hr' : Right F men r B Q := Right.anti hn hB (by rw [with_len, hB]) (leB_self hn hB hp) hr
      have ih := best_opt hg (men := men) r B Q hB hr'
      have h1 := ha 0 hpos
      rw [h0] at h1
      have h1 : (bestW F men r B).sods ≤ (bestW F men (r + 1) B).sods := h1
      refine ⟨by rw [htot]; omega, fun heq => ?_⟩
      rw [htot] at heq
      have hi0 : i = 0 := by
        rcases Nat.eq_zero_or_pos i with h | h
        · exact h
        · have := hb 0 h
          rw [h0] at this
          have : (bestW F men r B).sods < (bestW F men (r + 1) B).sods := this
          omega
      subst hi0
      rw [h0] at he
      have e2 : (bestW F men (r + 1) B).plan = noneT := by rw [← he]
      show lex _ p ∨ _ = p ∧ lexL (bl F men r (with_ B (bestW F men (r + 1) B).plan)) Q
      rw [e2]
      by_cases hpn : p = noneT
      · right
        refine ⟨hpn.symm, ?_⟩
        rw [with_none]
        exact ih.2 (by omega)
      · exact .inl (none_lt hp hpn)
end Foot4

namespace Foot4
open Go Go.G
theorem stW_bl (F : Work) (men : Int) : ∀ k, k ≤ F.heaps.length → (stW F men k).2 ++ bl F men (F.heaps.length - k) (stW F men k).1 = bl F men F.heaps.length zeros
  | 0, _ => by simp [stW]
  | k + 1, hk => by
    have ih := stW_bl F men k (by omega)
    rw [← ih]
    obtain ⟨r, hr⟩ : ∃ r, F.heaps.length - k = r + 1 := ⟨F.heaps.length - (k + 1), by omega⟩
    have hr' : F.heaps.length - (k + 1) = r := by omega
    rw [hr', hr]
    simp only [stW, bl, hr, List.append_assoc, List.singleton_append]
theorem stW_all (F : Work) (men : Int) : (stW F men F.heaps.length).2 = bl F men F.heaps.length zeros := by
  have := stW_bl F men F.heaps.length (Nat.le_refl _)
  simpa [bl] using this
theorem right_of {F : Work} {men : Int} {l : List T3} (hl : l.length = F.heaps.length)
    (h : ∀ h, h < F.heaps.length → IsPlan F.rain.length (l.getD h default) ∧ keptF selW F h (l.getD h default) ∧ ∀ j, j < 3 → 0 ≤ (l.getD h default).at j → (busyTo l h).getD ((l.getD h default).at j).toNat 0 < men) :
    ∀ r, r ≤ F.heaps.length → Right F men r (busyTo l (F.heaps.length - r)) (l.drop (F.heaps.length - r))
  | 0, _ => by
    show l.drop (F.heaps.length - 0) = []
    rw [Nat.sub_zero, ← hl]; simp
  | r + 1, hr => by
    have ih := right_of hl h r (by omega)
    have hk := h (F.heaps.length - (r + 1)) (by omega)
    have hlt : F.heaps.length - (r + 1) < l.length := by omega
    have e : l.drop (F.heaps.length - (r + 1)) = l.getD (F.heaps.length - (r + 1)) default :: l.drop (F.heaps.length - r) := by
      rw [List.drop_eq_getElem_cons hlt, show F.heaps.length - (r + 1) + 1 = F.heaps.length - r from by omega]
      simp [hlt]
    refine ⟨_, _, e, hk.1, hk.2.1, hk.2.2, ?_⟩
    rw [show F.heaps.length - r = (F.heaps.length - (r + 1)) + 1 from by omega] at ih
    have e2 : F.heaps.length - r = (F.heaps.length - (r + 1)) + 1 := by omega
    rw [e2]
    exact ih
theorem of_right {F : Work} {men : Int} {l : List T3} (hl : l.length = F.heaps.length) : ∀ r, r ≤ F.heaps.length → Right F men r (busyTo l (F.heaps.length - r)) (l.drop (F.heaps.length - r)) →
    ∀ h, F.heaps.length - r ≤ h → h < F.heaps.length → IsPlan F.rain.length (l.getD h default) ∧ keptF selW F h (l.getD h default) ∧ ∀ j, j < 3 → 0 ≤ (l.getD h default).at j → (busyTo l h).getD ((l.getD h default).at j).toNat 0 < men
  | 0, _, _, h, h1, h2 => by omega
  | r + 1, hr, hR, h, h1, h2 => by
    have hlt : F.heaps.length - (r + 1) < l.length := by omega
    have e : l.drop (F.heaps.length - (r + 1)) = l.getD (F.heaps.length - (r + 1)) default :: l.drop (F.heaps.length - r) := by
      rw [List.drop_eq_getElem_cons hlt, show F.heaps.length - (r + 1) + 1 = F.heaps.length - r from by omega]
      simp [hlt]
    obtain ⟨p, Q, e1, hp, hk, hf, hr'⟩ := hR
    rw [e] at e1
    obtain ⟨rfl, rfl⟩ := List.cons.inj e1
    by_cases he : h = F.heaps.length - (r + 1)
    · subst he; exact ⟨hp, hk, hf⟩
    · refine of_right hl r (by omega) ?_ h (by omega) h2
      have e2 : F.heaps.length - r = (F.heaps.length - (r + 1)) + 1 := by omega
      rw [e2] at hr' ⊢
      exact hr'
end Foot4

namespace Foot4
open Go Go.G
theorem total_to {F : Work} {l : List T3} (hl : l.length = F.heaps.length) : ∀ r, r ≤ F.heaps.length → sodsTo F l (F.heaps.length - r) + total F r (l.drop (F.heaps.length - r)) = sodsTo F l F.heaps.length
  | 0, _ => by simp [total]
  | r + 1, hr => by
    have ih := total_to hl r (by omega)
    have hlt : F.heaps.length - (r + 1) < l.length := by omega
    have e : l.drop (F.heaps.length - (r + 1)) = l.getD (F.heaps.length - (r + 1)) default :: l.drop (F.heaps.length - r) := by
      rw [List.drop_eq_getElem_cons hlt, show F.heaps.length - (r + 1) + 1 = F.heaps.length - r from by omega]
      simp [hlt]
    rw [e]
    show _ + ((if wholeB' (l.getD (F.heaps.length - (r + 1)) default) then _ else 0) + total F r (l.drop (F.heaps.length - r))) = _
    rw [← ih, show F.heaps.length - r = (F.heaps.length - (r + 1)) + 1 from by omega]
    have e2 : sodsTo F l (F.heaps.length - (r + 1) + 1) = sodsTo F l (F.heaps.length - (r + 1)) + (if wholeB' (l.getD (F.heaps.length - (r + 1)) default) then (F.heaps.getD (F.heaps.length - (r + 1)) default).sods else 0) := rfl
    rw [e2]
    omega
theorem total_sods {F : Work} {l : List T3} (hl : l.length = F.heaps.length) : total F F.heaps.length l = sodsR F l := by
  have := total_to hl F.heaps.length (Nat.le_refl _)
  rw [Nat.sub_self] at this
  unfold sodsR
  rw [hl]
  simpa [sodsTo] using this
end Foot4

namespace Foot4
open Go Go.G
end Foot4

namespace Foot4
open Go Go.G
theorem t3_ext {p q : T3} (h : ∀ i, i < 3 → p.at i = q.at i) : p = q := by
  obtain ⟨a, b, c⟩ := p
  obtain ⟨d, e, f⟩ := q
  have h0 : a = d := h 0 (by omega)
  have h1 : b = e := h 1 (by omega)
  have h2 : c = f := h 2 (by omega)
  subst h0 h1 h2; rfl
end Foot4

namespace Foot4
open Go Go.G
def RightL (F : Work) (men : Int) (l : List T3) : Prop := l.length = F.heaps.length ∧ ∀ h, h < F.heaps.length → IsPlan F.rain.length (l.getD h default) ∧ keptF selW F h (l.getD h default) ∧ ∀ j, j < 3 → 0 ≤ (l.getD h default).at j → (busyTo l h).getD ((l.getD h default).at j).toNat 0 < men
theorem bestS_ge {F : Work} (hg : GoodF F) {men : Int} {l : List T3} (h : RightL F men l) : sodsR F l ≤ bestS F men := by
  have h1 := right_of (men := men) h.1 h.2 F.heaps.length (Nat.le_refl _)
  rw [Nat.sub_self] at h1
  have h2 := best_opt hg (men := men) F.heaps.length zeros l rfl h1
  rw [total_sods h.1] at h2
  exact h2.1
theorem bestS_att {F : Work} (hg : GoodF F) (men : Int) : ∃ l, RightL F men l ∧ sodsR F l = bestS F men := by
  have h1 := bl_right hg (men := men) F.heaps.length zeros
  rw [← stW_all F men] at h1
  have hlen := (stW_len F men F.heaps.length).2
  refine ⟨_, ⟨hlen, fun h hh => of_right hlen F.heaps.length (Nat.le_refl _) (by rw [Nat.sub_self]; exact h1.1) h (by omega) hh⟩, ?_⟩
  rw [← total_sods hlen]
  exact h1.2
end Foot4

namespace Foot4
open Go Go.G
structure Ease (F F' : Work) : Prop where
  good : GoodF F'
  men : F'.men = F.men
  rl : F'.rain.length = F.rain.length
  hl : F'.heaps.length = F.heaps.length
  rain : ∀ k, (F'.rain.getD k default).hi ≤ (F.rain.getD k default).hi
  heap : ∀ k, (F'.heaps.getD k default).hi ≤ (F.heaps.getD k default).hi
  sods : ∀ k, (F'.heaps.getD k default).sods = (F.heaps.getD k default).sods
  lim : ∀ k, F.lim.at k ≤ F'.lim.at k
  dr : ∀ k, F.dr.at k ≤ F'.dr.at k
theorem Ease.wet {F F' : Work} (h : Ease F F') (heap : Nat) (p : T3) : ∀ d, worstTo F' heap p d ≤ worstTo F heap p d
  | 0 => h.heap heap
  | d + 1 => by
    have ih := h.wet heap p d
    have h1 := h.rain d
    have h2 := h.dr (Done p d).toNat
    simp only [worstTo]
    split
    · unfold step; omega
    · exact ih
theorem Ease.kept {F F' : Work} (h : Ease F F') {heap : Nat} {p : T3} (hp : IsPlan F.rain.length p) (hk : keptF selW F heap p) : keptF selW F' heap p := by
  have hp' : IsPlan F'.rain.length p := by rw [h.rl]; exact hp
  have go : ∀ k, canF selW F heap p k → canF selW F' heap p k := fun k hc => by
    rw [(can_ok hp k).1] at hc
    rw [(can_ok hp' k).1]
    rcases hc with hc | hc
    · exact .inl hc
    · right
      have := h.wet heap p (p.at k).toNat
      have := h.lim k
      omega
  exact ⟨go 0 hk.1, go 1 hk.2.1, go 2 hk.2.2⟩
theorem Ease.sodsTo {F F' : Work} (h : Ease F F') (l : List T3) : ∀ k, sodsTo F' l k = sodsTo F l k
  | 0 => rfl
  | k + 1 => by simp only [Foot4.sodsTo, h.sodsTo l k, h.sods k]
theorem Ease.best {F F' : Work} (hg : GoodF F) (h : Ease F F') : bestS F F.men ≤ bestS F' F'.men := by
  obtain ⟨l, hl, he⟩ := bestS_att hg F.men
  rw [← he, h.men]
  have : sodsR F l = sodsR F' l := (h.sodsTo l _).symm
  rw [this]
  exact bestS_ge h.good ⟨by rw [hl.1, h.hl], fun k hk => by
    rw [h.hl] at hk
    obtain ⟨h1, h2, h3⟩ := hl.2 k hk
    exact ⟨by rw [h.rl]; exact h1, h.kept h1 h2, h3⟩⟩
def sumF (f : Nat → Int) : Nat → Int
  | 0 => 0
  | k + 1 => sumF f k + f k
end Foot4

namespace Go.G
variable {P : Program} {W : World} {n : Nat} {D : List Deferred} {L : Tm} {M : List Res} {R : List Fact} {Q : Exit → Act → World → Prop} {o : Oper}
end Go.G

namespace Go.G
variable {P : Program} {W : World} {n : Nat} {D : List Deferred} {L : Tm} {M : List Res} {R : List Fact} {Q : Exit → Act → World → Prop} {o : Oper}
theorem Imp.rowN {α : Type} {enc : α → List Value} {sz : Nat} {b : Nat} {T : TypeId} {vs : List Value} {X : Act → World → Prop} (xs : List α) (henc : ∀ x, (enc x).length = sz) [hb : HasBoxF b R T vs] (e : vs = xs.flatMap enc) (h : Imp W n D L M (rowD (some ⟨b, 0, none⟩) sz enc xs :: R) X) : Imp W n D L M R X := by
  intro a w h1 h2 h3
  refine h a w h1 h2 (h3.derive fun V hV => .inr ⟨b, 0, vs.toArray, T, (0, 0), rfl, hV _ hb.mem, fun i j hi hj => ?_⟩)
  subst e
  rw [Nat.zero_add, ← flat_at henc xs i j hi hj]
  simp
def adrAt : Value → Nat → Option Addr
  | .agg cs, i => adr (cs.getD i undef)
  | _, _ => none
end Go.G

namespace Go.G
variable {P : Program} {W : World} {n : Nat} {D : List Deferred} {L : Tm} {M : List Res} {R : List Fact} {Q : Exit → Act → World → Prop} {o : Oper}
abbrev FnC (P : Program) (k : FuncId) (args : List Value) (r : Res) (R0 : List Fact) (v : Value) (r' : Res) : Prop := FnS P k args [r] R0 (fun e M' R' => e = .returned v ∧ M' = [r'] ∧ R' = [])
theorem FnC.intro {k : FuncId} {args : List Value} {r r' : Res} {R0 : List Fact} {v : Value} {fn : Func} {c : Code} (he : ∀ (ag : Array Value) (w : World), (callFunc k ag).run P w = .ok (.enter k ag) w)
    (hf : P.funcs[k]? = some fn) (hb : fn.body = some c) (hn : fn.ntmps = n) (ha : Nat.ble args.length n = true)
    (h : ∀ W Mf Rf, Imp W n [] (argsL args 0) (r :: Mf) (R0 ++ Rf) (c.wp P (bodyPost P fn (RetE W Mf (R0 ++ Rf) (fun e M' R' => e = .returned v ∧ M' = [r'] ∧ R' = []))))) : FnC P k args r R0 v r' := FnS.intro he hf hb hn ha h
theorem o_fnc {ops : Array Oper} {rest : List Oper} {k : FuncId} {args : List Value} {r r' : Res} {M1 : List Res} {R0 : List Fact} {v : Value} {f : Operand} {xs : List Operand} {ts : Array TypeId} {vs : List Value} {d : Nat}
    (h : FnC P k args r R0 v r') (ho : o.op = .call { callee := .value f, args := xs.toArray, argTypes := ts }) (first captured : List Value) (hf : ev L f = some (.func (.func k) first.toArray captured.toArray))
    (hx : evs L xs = some vs) (ha : first ++ vs ++ captured = args) (hg : o.guard = none) (hdst : o.dst = some d) (hd : Nat.blt d n = true) [hM : DelC M r M1] (hs : SubR R R0)
    (hret : Imp W n D ((d, v) :: L) (r' :: M1) R (wpList P ops Q rest)) : Imp W n D L M R (wpList P ops Q (o :: rest)) := by
  refine o_call h ho first captured hf hx ha hg (by simp [okD, hdst, hd]) (SelM.pick hM.del SelM.refl) hs ?_ ?_ ?_
  · rintro u M' R' ⟨he, rfl, rfl⟩
    cases he
    rw [hdst]
    exact hret
  · rintro c M' R' ⟨he, _⟩; cases he
  · rintro M' R' ⟨he, _⟩; cases he
end Go.G

namespace Go.G
variable {P : Program} {W : World} {n : Nat} {D : List Deferred} {L : Tm} {M : List Res} {R : List Fact} {Q : Exit → Act → World → Prop} {o : Oper}
theorem v_shrn {t u : TypeId} {x y : Operand} {a h : Nat} (ho : o.op = .binOp .shr t x y u) (hx : ev L x = some (.int .i64 (a : Int))) (hy : ev L y = some (.int .i64 (h : Int))) (ha : a < 2 ^ 62) (hh : h < 62) : OpQ P W n L M R o (.int .i64 ((a >>> h : Nat) : Int)) :=
  OpQ.of_value fun f w h1 _ => by
    have hle : a >>> h ≤ a := Nat.shiftRight_le a h
    have hw : IntKind.wrap .i64 ((a >>> h : Nat) : Int) = ((a >>> h : Nat) : Int) := by
      generalize a >>> h = q at hle ⊢
      rw [IntKind.wrap_i64]; omega
    have h2 : ¬ ((h : Int) < 0) := by omega
    have h3 : min h 64 = h := by omega
    have hs : (Op.shift .shr .i64 (a : Int) .i64 (h : Int)).run P w = .ok (.int .i64 ((a >>> h : Nat) : Int)) w := by
      unfold Op.shift
      rw [if_neg h2]
      have e : ((a : Int).fdiv (2 ^ (min (h : Int).toNat IntKind.i64.bits))) = ((a >>> h : Nat) : Int) := by
        rw [show (h : Int).toNat = h from by simp, show IntKind.i64.bits = 64 from rfl, h3, Nat.shiftRight_eq_div_pow, Int.fdiv_eq_ediv_of_nonneg _ (by exact Int.le_of_lt (Int.pow_pos (by decide)))]
        simp
      simp only [e, hw, Sem.run_pure]
    have hb : (binOp .shr t (.int .i64 (a : Int)) (.int .i64 (h : Int))).run P w = .ok (.int .i64 ((a >>> h : Nat) : Int)) w := hs
    simp [execOp, ho, h1.ev hx, h1.ev hy, eqGuard, hb]
theorem v_andn {t u : TypeId} {x y : Operand} {a b : Nat} (ho : o.op = .binOp .and t x y u) (hx : ev L x = some (.int .i64 (a : Int))) (hy : ev L y = some (.int .i64 (b : Int))) (ha : a < 2 ^ 62) (hb : b < 2 ^ 62) : OpQ P W n L M R o (.int .i64 ((a &&& b : Nat) : Int)) :=
  OpQ.of_value fun f w h1 _ => by
    have hlt : a &&& b ≤ a := Nat.and_le_left
    have hw : IntKind.wrap .i64 ((a &&& b : Nat) : Int) = ((a &&& b : Nat) : Int) := by
      rw [IntKind.wrap_i64]; omega
    have hs : (Op.intBits .and .i64 (a : Int) (b : Int)).run P w = .ok (.int .i64 ((a &&& b : Nat) : Int)) w := by
      unfold Op.intBits
      have e1 : (BitVec.ofInt IntKind.i64.bits (a : Int) &&& BitVec.ofInt IntKind.i64.bits (b : Int)).toNat = a &&& b := by
        have h64 : IntKind.i64.bits = 64 := rfl
        rw [BitVec.toNat_and]
        simp only [BitVec.ofInt_natCast, BitVec.toNat_ofNat, h64]
        rw [Nat.mod_eq_of_lt (by omega), Nat.mod_eq_of_lt (by omega)]
      simp only [e1, hw, Sem.run_pure]
    have hb2 : (binOp .and t (.int .i64 (a : Int)) (.int .i64 (b : Int))).run P w = .ok (.int .i64 ((a &&& b : Nat) : Int)) w := hs
    simp [execOp, ho, h1.ev hx, h1.ev hy, eqGuard, hb2]
abbrev Spc.mk' {α : Type} (l c sz : Nat) (enc : α → List Value) (z0 : α) : Spc := Spc.g (fun v => v = .slice (some ⟨sblk v, 0, none⟩) (List.replicate l z0).length c) (fun _ => []) (fun v => [rowD (some ⟨sblk v, 0, none⟩) sz enc (List.replicate l z0)])
end Go.G

namespace Go.G
variable {P : Program} {W : World} {n : Nat} {D : List Deferred} {L : Tm} {M : List Res} {R : List Fact} {Q : Exit → Act → World → Prop} {o : Oper}
end Go.G

namespace Go.G
variable {P : Program} {W : World} {n : Nat} {D : List Deferred} {L : Tm} {M : List Res} {R : List Fact} {Q : Exit → Act → World → Prop} {o : Oper}
end Go.G

namespace Go.G
variable {P : Program} {W : World} {n : Nat} {D : List Deferred} {L : Tm} {M : List Res} {R : List Fact} {Q : Exit → Act → World → Prop} {o : Oper}
structure Cm (f : Int → Int) (l : List MapEntry) : Prop where
  all : ∀ e ∈ l, ∃ z, (Lit.int .i64 z).wf = true ∧ e.key = (Value.int .i64 z) ∧ e.val = (Value.int .i64 (f z))
  nodup : (l.map MapEntry.key).Nodup
  zero : ∀ z, f z ≠ 0 → ∃ e ∈ l, e.key = (Value.int .i64 z)
def updF (f : Int → Int) (z y : Int) : Int → Int := fun x => if x = z then y else f x
theorem Cm.set {f : Int → Int} {l : List MapEntry} {z y : Int} {j : Nat} {e0 : MapEntry} (h : Cm f l) (hw : (Lit.int .i64 z).wf = true) (hj : l[j]? = some e0) (hk : e0.key = (Value.int .i64 z)) {l' : List MapEntry}
    (hl : ∀ m, l'[m]? = if j = m then some { e0 with key := (Value.int .i64 z), val := (Value.int .i64 y) } else l[m]?) : Cm (updF f z y) l' := by
  have hkeys : l'.map MapEntry.key = l.map MapEntry.key := by
    apply List.ext_getElem?
    intro m
    rw [List.getElem?_map, List.getElem?_map, hl m]
    split
    · rename_i e; subst e; rw [hj]; simp [hk]
    · rfl
  refine ⟨fun e he => ?_, by rw [hkeys]; exact h.nodup, fun z' hz' => ?_⟩
  · obtain ⟨m, hm⟩ := List.mem_iff_getElem?.1 he
    rw [hl m] at hm
    split at hm
    · have : e = { e0 with key := (Value.int .i64 z), val := (Value.int .i64 y) } := by simpa using hm.symm
      subst this
      exact ⟨z, hw, rfl, by simp [updF]⟩
    · rename_i hne
      obtain ⟨z', h1, h2, h3⟩ := h.all e (List.mem_of_getElem? hm)
      refine ⟨z', h1, h2, ?_⟩
      have : z' ≠ z := fun x => by
        subst x
        have k1 : (l.map MapEntry.key)[j]? = some ((Value.int .i64 z')) := by rw [List.getElem?_map, hj]; simp [hk]
        have k2 : (l.map MapEntry.key)[m]? = some ((Value.int .i64 z')) := by rw [List.getElem?_map, hm]; simp [h2]
        have hlt : j < (l.map MapEntry.key).length := (List.getElem?_eq_some_iff.1 k1).1
        exact hne ((List.getElem?_inj hlt h.nodup).1 (k1.trans k2.symm))
      simp [updF, this, h3]
  · have hkk : (Value.int .i64 z') ∈ l'.map MapEntry.key := by
      rw [hkeys]
      by_cases e : z' = z
      · subst e; rw [← hk]; exact List.mem_map_of_mem (List.mem_of_getElem? hj)
      · obtain ⟨x, hx, hkx⟩ := h.zero z' (by simpa [updF, e] using hz')
        rw [← hkx]; exact List.mem_map_of_mem hx
    obtain ⟨x, hx, hkx⟩ := List.mem_map.1 hkk
    exact ⟨x, hx, hkx⟩
end Go.G

namespace Foot4
open Go Go.G
def pick (rl : Nat) (bys : List Int) (h i : Nat) : Int := if 3 * h + i < bys.length then ((bys.getD (3 * h + i) 0).tmod (rl + 1) + rl + 1).tmod (rl + 1) - 1 else -1
end Foot4

namespace Foot4
open Go Go.G
end Foot4

namespace Sod2
open Go Go.G Foot4
end Sod2

namespace Sod2
open Go Go.G Foot4
structure BankA where
  B : Bank
  po : Option Addr
  so : Option Addr
  lo : Option Addr
  pc : Nat
  sc : Nat
  lc : Nat
instance : Inhabited BankA := ⟨⟨⟨[], [], []⟩, none, none, none, 0, 0, 0⟩⟩
end Sod2

namespace Drain7
open Go Go.G Foot4
structure Lease where
  holder : Int
  flo : Int
  fhi : Int
  tlo : Int
  thi : Int
  deriving DecidableEq, Inhabited
structure Mark where
  perch : Int
  holder : Int
  deriving DecidableEq, Inhabited
structure Bk where
  perches : Int
  holders : Int
  leases : List Lease
  marks : List Mark
structure DBank where
  llo : Int
  lhi : Int
  ylo : Int
  yhi : Int
  deriving DecidableEq, Inhabited
structure DWay where
  a : Int
  b : Int
  deriving DecidableEq, Inhabited
structure Right where
  of_ : Int
  to_ : Int
  most : Int
  deriving DecidableEq, Inhabited
structure Dr where
  banks : List DBank
  ways : List DWay
  rights : List Right
  seen : List DWay
def encLe (x : Lease) : List Value := [i64 x.holder, i64 x.flo, i64 x.fhi, i64 x.tlo, i64 x.thi]
def encMk (x : Mark) : List Value := [i64 x.perch, i64 x.holder]
def encDB (x : DBank) : List Value := [i64 x.llo, i64 x.lhi, i64 x.ylo, i64 x.yhi]
def encDW (x : DWay) : List Value := [i64 x.a, i64 x.b]
def encR (x : Right) : List Value := [i64 x.of_, i64 x.to_, i64 x.most]
theorem encLe_len (x : Lease) : (encLe x).length = 5 := rfl
theorem encDB_len (x : DBank) : (encDB x).length = 4 := rfl
theorem encDW_len (x : DWay) : (encDW x).length = 2 := rfl
theorem encR_len (x : Right) : (encR x).length = 3 := rfl
@[reducible] def cellsK (B : Bk) (lo mo : Option Addr) (lc mc : Nat) : List Value := [i64 B.perches, i64 B.holders, .slice lo B.leases.length lc, .slice mo B.marks.length mc]
@[reducible] def valK (B : Bk) (lo mo : Option Addr) (lc mc : Nat) : Value := .agg (cellsK B lo mo lc mc).toArray
@[reducible] def cellsD (D : Dr) (bo wo ro so : Option Addr) (bc wc rc sc : Nat) : List Value := [.slice bo D.banks.length bc, .slice wo D.ways.length wc, .slice ro D.rights.length rc, .slice so D.seen.length sc]
@[reducible] def valD (D : Dr) (bo wo ro so : Option Addr) (bc wc rc sc : Nat) : Value := .agg (cellsD D bo wo ro so bc wc rc sc).toArray
def SpanK (lo hi a b : Int) : Prop := a ≤ lo ∧ lo ≤ hi ∧ hi ≤ b ∧ hi - lo ≤ 2
instance (lo hi a b : Int) : Decidable (SpanK lo hi a b) := by unfold SpanK; infer_instance
def LeaseOk (B : Bk) (l : Lease) : Prop := (0 ≤ l.holder ∧ l.holder ≤ B.holders - 1) ∧ SpanK l.flo l.fhi 0 (B.perches - 1) ∧ SpanK l.tlo l.thi 1 B.perches ∧ l.flo < l.thi
instance (B : Bk) (l : Lease) : Decidable (LeaseOk B l) := by unfold LeaseOk; infer_instance
def MarkOk (B : Bk) (m : Mark) : Prop := (0 ≤ m.perch ∧ m.perch ≤ B.perches - 1) ∧ (0 ≤ m.holder ∧ m.holder ≤ B.holders)
instance (B : Bk) (m : Mark) : Decidable (MarkOk B m) := by unfold MarkOk; infer_instance
def GoodK (B : Bk) : Prop := (1 ≤ B.perches ∧ B.perches ≤ 10) ∧ (1 ≤ B.holders ∧ B.holders ≤ 4) ∧ (B.leases.length : Int) ≤ 4 ∧ (B.marks.length : Int) ≤ 6 ∧ (∀ k, k < B.leases.length → LeaseOk B (B.leases.getD k default)) ∧ (∀ k, k < B.marks.length → MarkOk B (B.marks.getD k default))
instance (B : Bk) : Decidable (GoodK B) := by unfold GoodK; infer_instance
def TwoD (D : Dr) (a b : Int) : Prop := (0 ≤ a ∧ a ≤ (D.banks.length : Int) - 1) ∧ (0 ≤ b ∧ b ≤ (D.banks.length : Int) - 1) ∧ a ≠ b
instance (D : Dr) (a b : Int) : Decidable (TwoD D a b) := by unfold TwoD; infer_instance
def SpanD (lo hi b : Int) : Prop := 0 ≤ lo ∧ lo ≤ hi ∧ hi ≤ b ∧ hi - lo ≤ 2
instance (lo hi b : Int) : Decidable (SpanD lo hi b) := by unfold SpanD; infer_instance
def GoodD (D : Dr) : Prop := (1 ≤ (D.banks.length : Int) ∧ (D.banks.length : Int) ≤ 5) ∧ (D.ways.length : Int) ≤ 7 ∧ (D.rights.length : Int) ≤ 4 ∧ (D.seen.length : Int) ≤ 4
  ∧ (∀ k, k < D.banks.length → SpanD (D.banks.getD k default).llo (D.banks.getD k default).lhi 20 ∧ SpanD (D.banks.getD k default).ylo (D.banks.getD k default).yhi 20)
  ∧ (∀ k, k < D.ways.length → TwoD D (D.ways.getD k default).a (D.ways.getD k default).b)
  ∧ (∀ k, k < D.rights.length → TwoD D (D.rights.getD k default).of_ (D.rights.getD k default).to_ ∧ (0 ≤ (D.rights.getD k default).most ∧ (D.rights.getD k default).most ≤ 100))
  ∧ (∀ k, k < D.seen.length → TwoD D (D.seen.getD k default).a (D.seen.getD k default).b)
instance (D : Dr) : Decidable (GoodD D) := by unfold GoodD; infer_instance
end Drain7

namespace Go.G
variable {P : Program} {W : World} {n : Nat} {D : List Deferred} {L : Tm} {M : List Res} {R : List Fact} {Q : Exit → Act → World → Prop} {o : Oper}
end Go.G

set_option linter.unusedVariables false
set_option linter.unusedSimpArgs false
namespace Go.G
variable {P : Program} {W : World} {n : Nat} {D : List Deferred} {L : Tm} {M : List Res} {R : List Fact} {Q : Exit → Act → World → Prop} {o : Oper}
def ownZ {α : Type} (v : Value) (T : TypeId) (sz : Nat) (enc : α → List Value) (xs : List α) : Res := fun s => ((∃ oa, v = .slice oa 0 0) ∧ xs = [] ∧ s = []) ∨ ownL v T sz enc xs s
theorem flat_len {α : Type} {enc : α → List Value} {sz : Nat} (henc : ∀ x, (enc x).length = sz) : ∀ xs : List α, (xs.flatMap enc).length = xs.length * sz
  | [] => by simp
  | x :: r => by rw [List.flatMap_cons, List.length_append, henc, flat_len henc r, List.length_cons, Nat.add_mul]; omega
theorem St.newOwn {α : Type} {enc : α → List Value} {sz : Nat} {w : World} {e : TypeId} {i : TypeInfo} {z : Value} (hsz : i.size = sz) (hzs : z.cells.size = sz) (henc : ∀ x, (enc x).length = sz) (xs : List α) {old : Nat} (h63 : xs.length ≤ maxLen) (hold : old < xs.length) (h : St W M R w) {cs : Array Value} (hcs : cs.toList = xs.flatMap enc) :
    St W (ownL (.slice (some ⟨w.heap.size, 0, none⟩) xs.length (grownCap w xs.length old e)) e sz enc xs :: M) R (w.drew.alloc (.cells (cs ++ Builtin.zeroCells z.cells (grownCap w xs.length old e - xs.length)) e)) := by
  have hge := grownCap_ge w xs.length old e
  have hcm := grownCap_le_maxLen w xs.length old e h63
  have hd : St W M R w.drew := h.heap rfl rfl rfl rfl
  have hp := hd.push (.cells (cs ++ Builtin.zeroCells z.cells (grownCap w xs.length old e - xs.length)) e)
  have hl := flat_len henc xs
  have hcl : cs.size = xs.length * sz := by rw [← hl, ← hcs]; simp
  refine hp.replace Upd.here rfl rfl rfl ?_
  intro s' hs' hO'
  refine ⟨s', ⟨hl, .inr ⟨w.heap.size, grownCap w xs.length old e, _, rfl, hge, hcm, ?_, ?_, hs'⟩⟩, hO', fun b hb => .inl hb, fun _ _ _ => rfl⟩
  · simp only [Array.size_append, size_zeroCells, hzs, hcl, ← Nat.add_mul]
    congr 1; omega
  · simp only [Array.toList_append, hcs]
    rw [← hl]
    exact List.take_left
theorem St.rowCells {α : Type} {enc : α → List Value} {sz : Nat} {w : World} {oa : Option Addr} {ys : List α} (h : St W M R w) (hm : rowD oa sz enc ys ∈ R) (henc : ∀ x, (enc x).length = sz) (hne : 0 < ys.length) : ∃ b off, oa = some ⟨b, off, none⟩ ∧ ∀ j u, (ys.flatMap enc)[j]? = some u → w.cell? ((⟨b, off, none⟩ : Addr).add j) = some u := by
  obtain ⟨b2, off, rfl, hc⟩ := h.row hm hne
  refine ⟨b2, off, rfl, fun j u hu => ?_⟩
  have hj : j < ys.length * sz := by rw [← flat_len henc ys]; exact (List.getElem?_eq_some_iff.1 hu).1
  have hpos : 0 < sz := Nat.pos_of_ne_zero fun h => by rw [h] at hj; simp at hj
  have hlt : j % sz < sz := Nat.mod_lt _ hpos
  have hdiv : j / sz < ys.length := Nat.div_lt_of_lt_mul (by rw [Nat.mul_comm]; exact hj)
  have hkk : j = (j / sz) * sz + j % sz := by rw [Nat.mul_comm]; exact (Nat.div_add_mod j sz).symm
  have e1 := flat_at henc ys _ _ hdiv hlt
  rw [← hkk, hu] at e1
  rw [add_at]
  have e2 := hc _ _ hdiv hlt
  rw [Nat.add_assoc, ← hkk] at e2
  rw [e2, ← e1]
theorem run_appN {α : Type} {enc : α → List Value} {sz : Nat} {w : World} {t ty e : TypeId} {i : TypeInfo} {z : Value} {ys : List α} {oa : Option Addr} {c b : Nat} (h : St W M R w) (hm : rowD oa sz enc ys ∈ R) (henc : ∀ x, (enc x).length = sz) (ht : P.underlying t = some (.slice e)) (hi : P.info? e = some i) (hz : i.zero = some z) (hsz : i.size = sz) (hzs : z.cells.size = sz)
    (hbd : ys.length ≤ 1000000 ∧ i.bytes ≤ 1000000) : ∃ v' w', (Builtin.append_ #[t, t] ty #[.slice (some ⟨b, 0, none⟩) 0 0, .slice oa ys.length c]).run P w = .ok v' w' ∧ St W (ownZ v' e sz enc ys :: M) R w' := by
  subst hsz
  by_cases hy : ys = []
  · subst hy
    refine ⟨.slice (some ⟨b, 0, none⟩) 0 0, w, ?_, ?_⟩
    · cases oa <;> simp [Builtin.append_, run_underlying ht, sizeOf, typeInfo, hi, Builtin.lenOf, Builtin.firstCells, loadCells, loadCellsFrom, storeCells]
    · obtain ⟨s, hS, hO, hR⟩ := h.mem
      exact ⟨h.os, h.tape, h.output, s, ⟨[], s, rfl, .inl ⟨⟨_, rfl⟩, rfl, rfl⟩, hS⟩, hO, hR⟩
  · have hne : 0 < ys.length := List.length_pos_iff.2 hy
    obtain ⟨b2, off, rfl, hnews⟩ := h.rowCells hm henc hne
    have hl := flat_len henc ys
    have hby : ys.length * i.bytes ≤ 140737488355328 := by
      have : ys.length * i.bytes ≤ 1000000 * 1000000 := Nat.mul_le_mul hbd.1 hbd.2
      omega
    have hr := run_append_grow (P := P) w t ty e i z ht hi hz ⟨b, 0, none⟩ 0 0 [] (by simp) (by simp) ⟨b2, off, none⟩ ys.length c (ys.flatMap enc) hl hnews (by omega) (by omega) (growslice_fits (by omega) (by rw [Nat.zero_add]; exact hby))
    have hgr := h.newOwn (e := e) (z := z) (i := i) rfl hzs henc ys (old := 0) (by simp only [maxLen]; omega) hne (cs := (ys.flatMap enc).toArray) (by simp)
    simp only [Nat.zero_add, List.nil_append] at hr
    refine ⟨_, _, hr, ?_⟩
    refine St.replace (r := ownL (.slice (some ⟨w.heap.size, 0, none⟩) ys.length (grownCap w ys.length 0 e)) e i.size enc ys) ?_ Upd.here rfl rfl rfl (fun s' hs' hO' => ⟨s', .inr hs', hO', fun b hb => .inl hb, fun _ _ _ => rfl⟩)
    simpa using hgr
def isL0 (v : Value) : Prop := ∃ b, v = .slice (some ⟨b, 0, none⟩) 0 0
abbrev Spc.l0 : Spc := Spc.g isL0 (fun _ => []) (fun _ => [])
theorem run_lit0 {w : World} {t e : TypeId} {i : TypeInfo} {ρ : Operand → Value} (ho : o.op = .buildSlice t 0 #[]) (ht : P.underlying t = some (.slice e)) (hi : P.info? e = some i) : (execOp ρ o).run P w = .ok (.value (.slice (some ⟨w.heap.size, 0, none⟩) 0 0)) (w.alloc (.cells #[] e)) := by
  simp only [execOp, ho, Instr.buildSlice, Sem.run_bind, run_underlying ht, run_sizeOf' hi, Result.andThen_ok]
  simp [newRow, newObj, Sem.run, Instr.fill]
  congr 2
  exact Array.eq_empty_of_size_eq_zero (by simp)
theorem p_lit0 {ops : Array Oper} {K : List Spc → Prop} {rest : List Oper} {acc : List Spc} {t e : TypeId} {i : TypeInfo} {d : Nat} (ho : o.op = .buildSlice t 0 #[]) (ht : P.underlying t = some (.slice e)) (hi : P.info? e = some i) (hg : o.guard = none) (hdst : o.dst = some d) (hd : Nat.blt d n = true)
    (hr : ParO P W n M R ops K rest (acc ++ [Spc.l0]) L) : ParO P W n M R ops K (o :: rest) acc L := by
  refine ⟨Spc.l0, by simp [hdst, hd], .inl ⟨rfl, .inl ⟨.inl hg, ?_⟩⟩, by simpa [addL, Spc.g] using hr⟩
  intro Mx Rx a w g1 g3
  have g3 : St W (Mx ++ M) (Rx ++ R) w := g3
  rw [run_lit0 ho ht hi]
  exact ⟨⟨_, rfl⟩, (g3.push _).drop⟩
theorem f_l0 {X : Act → World → Prop} {os : List Oper} {ss : List Spc} {d : Nat} (hdst : o.dst = some d) (h : ∀ b, Fin W n D X os ss ((d, .slice (some ⟨b, 0, none⟩) 0 0) :: L) M R) : Fin W n D X (o :: os) (Spc.l0 :: ss) L M R := f_g hdst (by rintro v ⟨b, rfl⟩; exact h b)
theorem St.ownZ_cases {α : Type} {enc : α → List Value} {sz : Nat} {w : World} {v : Value} {e : TypeId} {xs : List α} {M' : List Res} (h : St W (ownZ v e sz enc xs :: M') R w) : ((∃ oa, v = .slice oa 0 0) ∧ xs = [] ∧ St W M' R w) ∨ St W (ownL v e sz enc xs :: M') R w := by
  obtain ⟨s, ⟨s1, s2, rfl, hz, hS⟩, hO, hR⟩ := h.mem
  rcases hz with ⟨hv, hx, rfl⟩ | hz
  · exact .inl ⟨hv, hx, ⟨h.os, h.tape, h.output, s2, hS, by simpa using hO, by simpa using hR⟩⟩
  · exact .inr ⟨h.os, h.tape, h.output, s1 ++ s2, ⟨s1, s2, rfl, hz, hS⟩, hO, hR⟩
theorem Imp.rowP {α : Type} {enc : α → List Value} {sz : Nat} {b : Nat} {T : TypeId} {vs sp : List Value} {X : Act → World → Prop} (xs : List α) (henc : ∀ x, (enc x).length = sz) [hb : HasBoxF b R T vs] (e : vs = xs.flatMap enc ++ sp) (h : Imp W n D L M (rowD (some ⟨b, 0, none⟩) sz enc xs :: R) X) : Imp W n D L M R X := by
  subst e
  refine h.derive fun V hV => .inr ⟨b, 0, _, T, (0, 0), rfl, hV _ hb.mem, fun i j hi hj => ?_⟩
  rw [← flat_at henc xs i j hi hj, Nat.zero_add]
  have : (i + 1) * sz ≤ xs.length * sz := Nat.mul_le_mul_right _ hi
  rw [Nat.add_mul] at this
  rw [List.getElem?_toArray, List.getElem?_append_left (by rw [flat_len henc]; omega)]
theorem v_indexAddrB {T : TypeId} {x ix : Operand} {l c b : Nat} {e : TypeId} {i : TypeInfo} {k : Nat} {kd : IntKind} (ho : o.op = .indexAddr T x ix) (hT : P.underlying T = some (.slice e)) (hi : P.info? e = some i)
    (hx : ev L x = some (.slice (some ⟨b, 0, none⟩) l c)) (hk : ev L ix = some (.int kd (k : Int))) (h1 : k < l) : OpQ P W n L M R o (pt b (k * i.size)) :=
  OpQ.of_value fun g w g1 _ => by
    simp [execOp, ho, g1.ev hx, g1.ev hk, Instr.indexAt, pt, run_underlying hT, asIntOf, h1, run_sizeOf' hi, add_at]
def Mid {ι : Type} (W : World) (n : Nat) (D : List Deferred) (I : ι → Prop) (LI : ι → Tm) (MI : ι → List Res) (RI : ι → List Fact) (a : Act) (w : World) : Prop := ∃ i, I i ∧ Here W n D (LI i) (MI i) (RI i) a w
theorem r_here_mid {ι : Type} {I : ι → Prop} {LI : ι → Tm} {MI : ι → List Res} {RI : ι → List Fact} (i : ι) (h : Imp W n D L M R (Here W n D (LI i) (MI i) (RI i))) (hI : I i) : Imp W n D L M R (Mid W n D I LI MI RI) := h.mono fun _ _ hx => ⟨i, hI, hx⟩
theorem r_mid {ι : Type} {x y : Code} (I : ι → Prop) (LI : ι → Tm) (MI : ι → List Res) (RI : ι → List Fact) (h1 : Imp W n D L M R (x.wp P (Exit.then (Mid W n D I LI MI RI) Q))) (h2 : ∀ i, I i → Imp W n D (LI i) (MI i) (RI i) (y.wp P Q)) : Imp W n D L M R ((Code.seq x y).wp P Q) := by
  refine r_seq (h1.mono fun a w hx => ?_)
  refine Code.wp_mono (fun e a' w' he => ?_) hx
  cases e
  case normal =>
    obtain ⟨i, hi, g1, g2, g3⟩ := he
    exact h2 i hi a' w' g1 g2 g3
  all_goals exact he
end Go.G

set_option linter.unusedVariables false
namespace Go.G
variable {P : Program} {W : World} {n : Nat} {D : List Deferred} {L : Tm} {M : List Res} {R : List Fact} {Q : Exit → Act → World → Prop} {o : Oper}
end Go.G

set_option linter.unusedVariables false
set_option linter.unusedSimpArgs false
namespace Go.G
variable {P : Program} {W : World} {n : Nat} {D : List Deferred} {L : Tm} {M : List Res} {R : List Fact} {Q : Exit → Act → World → Prop} {o : Oper} {F : Fence} {m0 : Nat}
end Go.G

set_option linter.unusedVariables false
set_option linter.unusedSimpArgs false
namespace Go.G
variable {P : Program} {W : World} {n : Nat} {D : List Deferred} {L : Tm} {M : List Res} {R : List Fact} {Q : Exit → Act → World → Prop} {o : Oper}
end Go.G

set_option linter.unusedVariables false
set_option linter.unusedSimpArgs false
namespace Go.G
variable {P : Program} {W : World} {n : Nat} {D : List Deferred} {L : Tm} {M : List Res} {R : List Fact} {Q : Exit → Act → World → Prop} {o : Oper}
theorem u64_small {a : Nat} (h : a < 2 ^ 62) : IntKind.wrap .u64 (a : Int) = (a : Int) := IntWalk.u64_in _ (by omega)
theorem v_shlU {t u : TypeId} {x y : Operand} {h m : Nat} (ho : o.op = .binOp .shl t x y u) (hx : ev L x = some (.int .u64 1)) (hy : ev L y = some (.int .i64 (h : Int))) (hh : h < 62) (hm : m = 2 ^ h) : OpQ P W n L M R o (.int .u64 (m : Int)) :=
  OpQ.of_value fun f w h1 _ => by
    have h2 : ¬ ((h : Int) < 0) := by omega
    have h3 : min h 64 = h := by omega
    have h4 : (2 : Nat) ^ h ≤ 2 ^ 61 := Nat.pow_le_pow_right (by omega) (by omega)
    have hw : IntKind.wrap .u64 (m : Int) = (m : Int) := u64_small (by rw [hm]; omega)
    have e : (1 : Int) * 2 ^ (min (h : Int).toNat IntKind.u64.bits) = (m : Int) := by
      rw [show (h : Int).toNat = h from by simp, show IntKind.u64.bits = 64 from rfl, h3, hm]
      simp
    have hs : (Op.shift .shl .u64 1 .i64 (h : Int)).run P w = .ok (.int .u64 (m : Int)) w := by
      unfold Op.shift
      rw [if_neg h2]
      simp only [e, hw, Sem.run_pure]
    have hb : (binOp .shl t (.int .u64 1) (.int .i64 (h : Int))).run P w = .ok (.int .u64 (m : Int)) w := hs
    simp [execOp, ho, h1.ev hx, h1.ev hy, eqGuard, hb]
theorem v_shrU {t u : TypeId} {x y : Operand} {a h : Nat} (ho : o.op = .binOp .shr t x y u) (hx : ev L x = some (.int .u64 (a : Int))) (hy : ev L y = some (.int .i64 (h : Int))) (ha : a < 2 ^ 62) (hh : h < 62) : OpQ P W n L M R o (.int .u64 ((a >>> h : Nat) : Int)) :=
  OpQ.of_value fun f w h1 _ => by
    have hle : a >>> h ≤ a := Nat.shiftRight_le a h
    have hw : IntKind.wrap .u64 ((a >>> h : Nat) : Int) = ((a >>> h : Nat) : Int) := u64_small (by omega)
    have h2 : ¬ ((h : Int) < 0) := by omega
    have h3 : min h 64 = h := by omega
    have hs : (Op.shift .shr .u64 (a : Int) .i64 (h : Int)).run P w = .ok (.int .u64 ((a >>> h : Nat) : Int)) w := by
      unfold Op.shift
      rw [if_neg h2]
      have e : ((a : Int).fdiv (2 ^ (min (h : Int).toNat IntKind.u64.bits))) = ((a >>> h : Nat) : Int) := by
        rw [show (h : Int).toNat = h from by simp, show IntKind.u64.bits = 64 from rfl, h3, Nat.shiftRight_eq_div_pow, Int.fdiv_eq_ediv_of_nonneg _ (by exact Int.le_of_lt (Int.pow_pos (by decide)))]
        simp
      simp only [e, hw, Sem.run_pure]
    have hb : (binOp .shr t (.int .u64 (a : Int)) (.int .i64 (h : Int))).run P w = .ok (.int .u64 ((a >>> h : Nat) : Int)) w := hs
    simp [execOp, ho, h1.ev hx, h1.ev hy, eqGuard, hb]
theorem v_andU {t u : TypeId} {x y : Operand} {a b : Nat} (ho : o.op = .binOp .and t x y u) (hx : ev L x = some (.int .u64 (a : Int))) (hy : ev L y = some (.int .u64 (b : Int))) (ha : a < 2 ^ 62) (hb : b < 2 ^ 62) : OpQ P W n L M R o (.int .u64 ((a &&& b : Nat) : Int)) :=
  OpQ.of_value fun f w h1 _ => by
    have hlt : a &&& b ≤ a := Nat.and_le_left
    have hw : IntKind.wrap .u64 ((a &&& b : Nat) : Int) = ((a &&& b : Nat) : Int) := u64_small (by omega)
    have hs : (Op.intBits .and .u64 (a : Int) (b : Int)).run P w = .ok (.int .u64 ((a &&& b : Nat) : Int)) w := by
      unfold Op.intBits
      have e1 : (BitVec.ofInt IntKind.u64.bits (a : Int) &&& BitVec.ofInt IntKind.u64.bits (b : Int)).toNat = a &&& b := by
        have h64 : IntKind.u64.bits = 64 := rfl
        rw [BitVec.toNat_and]
        simp only [BitVec.ofInt_natCast, BitVec.toNat_ofNat, h64]
        rw [Nat.mod_eq_of_lt (by omega), Nat.mod_eq_of_lt (by omega)]
      simp only [e1, hw, Sem.run_pure]
    have hb2 : (binOp .and t (.int .u64 (a : Int)) (.int .u64 (b : Int))).run P w = .ok (.int .u64 ((a &&& b : Nat) : Int)) w := hs
    simp [execOp, ho, h1.ev hx, h1.ev hy, eqGuard, hb2]
theorem v_subU {t u : TypeId} {x y : Operand} {a b : Int} (ho : o.op = .binOp .sub t x y u) (hx : ev L x = some (.int .u64 a)) (hy : ev L y = some (.int .u64 b)) (h : 0 ≤ a - b ∧ a - b ≤ 18446744073709551615) : OpQ P W n L M R o (.int .u64 (a - b)) :=
  OpQ.of_value fun f w h1 _ => by simp [execOp, ho, h1.ev hx, h1.ev hy, eqGuard, binOp, Op.intArith, IntWalk.u64_in _ h]
theorem v_addU {t u : TypeId} {x y : Operand} {a b : Int} (ho : o.op = .binOp .add t x y u) (hx : ev L x = some (.int .u64 a)) (hy : ev L y = some (.int .u64 b)) (h : 0 ≤ a + b ∧ a + b ≤ 18446744073709551615) : OpQ P W n L M R o (.int .u64 (a + b)) :=
  OpQ.of_value fun f w h1 _ => by simp [execOp, ho, h1.ev hx, h1.ev hy, eqGuard, binOp, Op.intArith, IntWalk.u64_in _ h]
theorem m_rete {db : Nat} {fn : Func} {v : Value} {Mf M1 : List Res} {R0 : List Fact} {Post : Ending → List Res → List Fact → Prop} (M' : List Res) (R' : List Fact) [hM : DelC M (bl db (.deferred (some []))) M1] (hr : Rd P W n L M1 R fn v) (hp : Post (.returned v) M' R') (hS : SelM M1 (M' ++ Mf)) (hR : SubR R (R' ++ R0)) :
    Imp W n [mark db] L M R (bodyPostM Fence.wide 0 P fn (RetE W Mf R0 Post) .ret) :=
  leaves_mark hr (fun _ h => ⟨M', R', hp, (h.sel hS).weak hR⟩)
end Go.G

set_option linter.unusedVariables false
namespace Go.G
variable {P : Program} {W : World} {n : Nat} {D : List Deferred} {L : Tm} {M : List Res} {R : List Fact} {Q : Exit → Act → World → Prop} {o : Oper}
end Go.G

set_option linter.unusedVariables false
namespace Go.G
variable {P : Program} {W : World} {n : Nat} {D : List Deferred} {L : Tm} {M : List Res} {R : List Fact} {Q : Exit → Act → World → Prop} {o : Oper}
section
variable {α : Type} {enc : α → List Value} {sz : Nat} {T : TypeId} {xs : List α} {M' : List Res} {oa : Option Addr} {cap : Nat}
end
end Go.G

namespace Go.G
theorem flat_set {α : Type} [Inhabited α] {enc : α → List Value} {sz : Nat} (henc : ∀ x, (enc x).length = sz) {y : α} {v : Value} {sp : List Value} : ∀ (xs : List α) (i j : Nat), i < xs.length → j < sz → enc y = (enc (xs.getD i default)).set j v → (xs.flatMap enc ++ sp).set (i * sz + j) v = (xs.set i y).flatMap enc ++ sp
  | [], i, j, h, _, _ => by simp at h
  | x :: r, 0, j, _, hj, he => by
    simp only [List.flatMap_cons, List.set_cons_zero, Nat.zero_mul, Nat.zero_add, List.append_assoc]
    rw [List.set_append_left _ _ (by rw [henc]; exact hj)]
    have he : enc y = (enc x).set j v := he
    rw [he]
  | x :: r, i + 1, j, h, hj, he => by
    simp only [List.flatMap_cons, List.set_cons_succ, List.append_assoc]
    rw [List.set_append_right _ _ (by rw [henc, Nat.add_mul]; omega), henc, show (i + 1) * sz + j - sz = i * sz + j from by rw [Nat.add_mul]; omega]
    rw [flat_set henc r i j (by simpa using h) hj he]
theorem flat_get {α : Type} [Inhabited α] {enc : α → List Value} {sz : Nat} (henc : ∀ x, (enc x).length = sz) {sp : List Value} {xs : List α} {i j : Nat} (hi : i < xs.length) (hj : j < sz) : (xs.flatMap enc ++ sp)[i * sz + j]? = (enc (xs.getD i default))[j]? := by
  have h : i * sz + j < (xs.flatMap enc).length := by
    rw [flat_len henc]
    have : (i + 1) * sz ≤ xs.length * sz := Nat.mul_le_mul_right _ hi
    rw [Nat.add_mul] at this; omega
  rw [List.getElem?_append_left h, flat_at henc xs i j hi hj]
  congr 1
  simp [List.getD_eq_getElem?_getD, hi]
end Go.G

namespace Go.G
variable {P : Program} {W : World} {n : Nat} {D : List Deferred} {L : Tm} {M : List Res} {R : List Fact} {Q : Exit → Act → World → Prop} {o : Oper}
def NoP (Q : Exit → Act → World → Prop) : Exit → Act → World → Prop := fun e a w => match e with | .normal => Q .normal a w | _ => False
theorem r_nop (h : Imp W n D L M R (Q .normal)) : Imp W n D L M R (NoP Q .normal) := h
def addE (fl : List Nat) (o : Oper) : Oper := { o with after := o.after ++ (fl.map fun i => (⟨i, .phase⟩ : Edge)).toArray }
def floatL (fl : List Nat) (m : Nat) (l : List Oper) : List Oper := l.take m ++ (l.drop m).map (addE fl)
theorem floatL_at (fl : List Nat) (m : Nat) (l : List Oper) (j : Nat) : (floatL fl m l)[j]? = (l[j]?).map fun o => if j < m then o else addE fl o := by
  unfold floatL
  by_cases h : j < m
  · by_cases hl : j < l.length
    · rw [List.getElem?_append_left (by rw [List.length_take]; omega), List.getElem?_take, if_pos h]
      simp [h]
    · rw [List.getElem?_eq_none (by rw [List.length_append, List.length_take, List.length_map, List.length_drop]; omega), List.getElem?_eq_none (by omega)]; rfl
  · by_cases hm : m ≤ l.length
    · rw [List.getElem?_append_right (by rw [List.length_take]; omega), List.length_take, Nat.min_eq_left hm, List.getElem?_map, List.getElem?_drop, show m + (j - m) = j from by omega]
      simp [h]
    · rw [List.getElem?_eq_none (by rw [List.length_append, List.length_take, List.length_map, List.length_drop]; omega), List.getElem?_eq_none (by omega)]; rfl
theorem floatL_len (fl : List Nat) (m : Nat) (l : List Oper) : (floatL fl m l).length = l.length := by
  unfold floatL
  rw [List.length_append, List.length_take, List.length_map, List.length_drop]; omega
section
variable {fl : List Nat} {m : Nat} {l : List Oper}
theorem float_ready {listed : Array Bool} (hi : ∀ i ∈ fl, listed.getD i false = true) {j : Nat} : j ∈ Region.ready .any (floatL fl m l).toArray listed ↔ j ∈ Region.ready .any l.toArray listed := by
  rw [mem_ready, mem_ready]
  constructor
  · rintro ⟨h0, o, ho, h⟩
    rw [List.getElem?_toArray, floatL_at] at ho
    cases hl : l[j]? with
    | none => rw [hl] at ho; cases ho
    | some p =>
      rw [hl] at ho
      simp only [Option.map_some, Option.some.injEq] at ho
      refine ⟨h0, p, by simpa using hl, fun e he hb => h e ?_ hb⟩
      subst ho
      split
      · exact he
      · unfold addE; exact Array.mem_append_left _ he
  · rintro ⟨h0, o, ho, h⟩
    have ho : l[j]? = some o := by simpa using ho
    refine ⟨h0, if j < m then o else addE fl o, by rw [List.getElem?_toArray, floatL_at, ho]; rfl, fun e he hb => ?_⟩
    split at he
    · exact h e he hb
    · unfold addE at he
      rcases Array.mem_append.1 he with he | he
      · exact h e he hb
      · simp only [List.mem_toArray, List.mem_map] at he
        obtain ⟨i, hi', rfl⟩ := he
        exact hi i hi'
theorem float_yielded (tmps : Array Value) : yielded (floatL fl m l).toArray tmps = yielded l.toArray tmps := by
  funext j
  unfold yielded
  rw [List.getElem?_toArray, floatL_at, List.getElem?_toArray]
  cases l[j]? with
  | none => rfl
  | some o =>
    by_cases h : j < m
    · simp only [Option.map_some, if_pos h]
    · simp only [Option.map_some, if_neg h]; rfl
theorem float_op {j : Nat} {K : Act → World → Prop} {a : Act} {w : World} (h : wpOp P (floatL fl m l).toArray Q j K a w) : wpOp P l.toArray Q j K a w := by
  unfold wpOp at *
  rw [List.getElem?_toArray, floatL_at, float_yielded] at h
  rw [List.getElem?_toArray]
  cases hl : l[j]? with
  | none => rw [hl] at h; exact h
  | some o =>
    rw [hl] at h
    simp only [Option.map_some] at h ⊢
    split at h
    · exact h
    · exact h
theorem float_any : ∀ (fuel : Nat) (listed : Array Bool) (a : Act) (w : World), (∀ i ∈ fl, listed.getD i false = true) → wpAny P .any (floatL fl m l).toArray Q fuel listed a w → wpAny P .any l.toArray Q fuel listed a w
  | 0, listed, a, w, hi, h => by
    refine ⟨?_, h.2⟩
    cases hr : Region.ready .any l.toArray listed with
    | nil => rfl
    | cons x xs =>
      have : x ∈ Region.ready .any (floatL fl m l).toArray listed := (float_ready hi).2 (by rw [hr]; simp)
      rw [h.1] at this; cases this
  | fuel + 1, listed, a, w, hi, h => by
    refine ⟨fun hr => h.1 ?_, fun j hj => float_op (wpOp_mono (fun a' w' h' => float_any fuel _ a' w' (fun i hi' => getD_set_true (hi i hi')) h') (h.2 j ((float_ready hi).2 hj)))⟩
    cases hr' : Region.ready .any (floatL fl m l).toArray listed with
    | nil => rfl
    | cons x xs =>
      have : x ∈ Region.ready .any l.toArray listed := (float_ready hi).1 (by rw [hr']; simp)
      rw [hr] at this; cases this
end
theorem frame_at {free tail : List Oper} {ss : List Spc} (hpb : parB free tail = true) (hl : ss.length = free.length) (hfr : ∀ o ∈ free, look L (o.dst.getD 1000000) = none) (hL : LateOK (free ++ tail).toArray ss) (hab : ∀ (i : Nat) (s : Spc) (c : List PanicEntry), ss[i]? = some s → s.ab = some c → Imp W n D L M R (Q (.panic c)))
    (hstep : ∀ i o s, free[i]? = some o → ss[i]? = some s → Step1 P W n M R (free ++ tail).toArray ss i o s (detL (free.take i) (ss.take i) L))
    {listed : Array Bool} {a : Act} {w : World} (hJ : J W n D L M R (free ++ tail).toArray free ss listed a w) {i : Nat} {o : Oper} (ho : free[i]? = some o) (hp : ∀ e ∈ o.after, Region.binds .any e = true → listed.getD e.on false = true) :
    ∃ a' g, FSat n (detL (free.take i) (ss.take i) L) a' ∧ execOp a.eval o = execOp a'.eval o ∧ (∀ i o s, free[i]? = some o → ss[i]? = some s → listed.getD i false = true → s.val (g i) ∧ (∀ d, o.dst = some d → a.tmps[d]? = some (g i))) ∧ St W (resOf ss listed g free.length ++ M) (fctOf ss listed g free.length ++ R) w := by
  simp only [parB, Bool.and_eq_true] at hpb
  obtain ⟨⟨⟨⟨hns, hfree⟩, hnd0⟩, hback⟩, htail⟩ := hpb
  have hnd := injB_sound hnd0
  have hmN : free.length ≤ (free ++ tail).length := by simp
  have hmask : ∀ listed', Closed (free ++ tail).toArray listed' → ∀ i o, free.length ≤ i → (free ++ tail).toArray[i]? = some o → (∀ e ∈ o.after, Region.binds .any e = true → listed'.getD e.on false = true) → ∀ j, j < i → listed'.getD j false = true := by
    intro listed' hc i o hi ho hp j hj
    have hlt : i < (free ++ tail).length := by simpa using (Array.getElem?_eq_some_iff.1 ho).1
    have h1 := List.all_eq_true.1 htail i (List.mem_range.2 hlt)
    simp only [Bool.or_eq_true] at h1
    rcases h1 with h1 | h1
    · have : i < free.length := by simpa using h1
      omega
    · have h2 := List.all_eq_true.1 h1 j (List.mem_range.2 hj)
      exact (masks_sound hc (free ++ tail) [] (fun j => by simp) (fun i hi => by simp at hi)).1 i o (Nat.zero_le _) ho hp j h2
  have hbk : ∀ i o, (free ++ tail).toArray[i]? = some o → ∀ e ∈ o.after, Region.binds .any e = true → e.on < i := by
    intro i o ho e he hbi
    have hlt : i < (free ++ tail).length := by simpa using (Array.getElem?_eq_some_iff.1 ho).1
    have := List.all_eq_true.1 hback i (List.mem_range.2 hlt)
    rw [show (free ++ tail)[i]? = some o from by simpa using ho] at this
    have := Array.all_eq_true_iff_forall_mem.1 this e he
    simpa [hbi] using this
  have him : i < free.length := (List.getElem?_eq_some_iff.1 ho).1
  have hoi : (free ++ tail).toArray[i]? = some o := by
    rw [List.getElem?_toArray, List.getElem?_append_left him]; exact ho
  have hsi : i < ss.length := by omega
  have hs : ss[i]? = some ss[i] := List.getElem?_eq_getElem hsi
  have st := hstep i o ss[i] ho hs
  obtain ⟨fops, fgd⟩ := freeB_spec hfree ho
  obtain ⟨a', f1, f2, f3⟩ := mk_frame (n := n) (free.take i) (ss.take i) hJ.frame (fun j p sj e1 e2 => by
    have hji : j < i := by have := (List.getElem?_eq_some_iff.1 e1).1; simp at this; omega
    rw [List.getElem?_take, if_pos hji] at e1 e2
    exact (hstep j p sj e1 e2).lt) (hnd.take i)
  obtain ⟨g, hg, hS⟩ := hJ.vals
  have hag : ∀ t, (∀ j p, free[j]? = some p → p.dst.getD 1000000 = t → j < i → listed.getD j false = true) → a'.tmps[t]? = a.tmps[t]? := by
    intro t ht
    by_cases hex2 : ∃ (j : Nat) (p : Oper) (s : Spc) (v : Value), (free.take i)[j]? = some p ∧ (ss.take i)[j]? = some s ∧ s.det = some v ∧ p.dst.getD 1000000 = t
    · obtain ⟨j, p, s, v, e1, e2, e3, e4⟩ := hex2
      have hji : j < i := by have := (List.getElem?_eq_some_iff.1 e1).1; simp at this; omega
      have e1' : free[j]? = some p := by rw [List.getElem?_take, if_pos hji] at e1; exact e1
      have e2' : ss[j]? = some s := by rw [List.getElem?_take, if_pos hji] at e2; exact e2
      have hlj := ht j p e1' e4 hji
      obtain ⟨k1, k2⟩ := hg j p s e1' e2' hlj
      have hgv : g j = v := by simpa [Spc.val, e3] using k1
      obtain ⟨dj, hdj⟩ : ∃ d, p.dst = some d := by
        have := (hstep j p s e1' e2').lt
        cases hod : p.dst with
        | none => rw [hod, e3] at this; simp at this
        | some d => exact ⟨d, rfl⟩
      rw [← e4, f3 j p s v e1 e2 e3, show p.dst.getD 1000000 = dj from by simp [hdj], k2 dj hdj, hgv]
    · exact f2 t (fun j p s v e1 e2 e3 e4 => hex2 ⟨j, p, s, v, e1, e2, e3, e4⟩)
  have hev : ∀ x ∈ o.op.operands, a.eval x = a'.eval x := by
    intro x hx
    cases x with
    | tmp t =>
      have := hag t (fun j p e1 e2 _ => by
        obtain ⟨e, he, hbi, hon⟩ := depOn_spec (fops j p e1 (by
          rw [e2]; unfold tmpsOf
          exact List.mem_filterMap.2 ⟨.tmp t, by simpa using hx, rfl⟩))
        have := hp e he hbi
        rwa [hon] at this)
      simp [Act.eval, this]
    | const v => rfl
    | global v => rfl
    | func v => rfl
  have hex3 : execOp a.eval o = execOp a'.eval o := execOp_congr o (Region.noSelect_spec hns i o · · hoi) hev
  exact ⟨a', g, f1, hex3, hg, hS⟩
def FlOK (P : Program) (n : Nat) (L : Tm) (free : List Oper) (ss : List Spc) : List Nat → Prop
  | [] => True
  | i :: r => (∃ (o : Oper) (v : Value) (d : Nat), free[i]? = some o ∧ ss[i]? = some (Spc.q v) ∧ o.guard = none ∧ o.dst = some d ∧ Nat.blt d n = true ∧ ∀ a, FSat n (detL (free.take i) (ss.take i) L) a → ∀ w, (execOp a.eval o).run P w = .ok (.value v) w) ∧ FlOK P n L free ss r
theorem FlOK.at {free : List Oper} {ss : List Spc} : ∀ {fl : List Nat}, FlOK P n L free ss fl → ∀ i ∈ fl, ∃ (o : Oper) (v : Value) (d : Nat), free[i]? = some o ∧ ss[i]? = some (Spc.q v) ∧ o.guard = none ∧ o.dst = some d ∧ Nat.blt d n = true ∧ ∀ a, FSat n (detL (free.take i) (ss.take i) L) a → ∀ w, (execOp a.eval o).run P w = .ok (.value v) w
  | [], _, _, h => by cases h
  | j :: r, ⟨h1, h2⟩, i, hi => by
    rcases List.mem_cons.1 hi with rfl | hi
    · exact h1
    · exact FlOK.at h2 i hi
def tailF (fl : List Nat) (ms : List Nat) (m N : Nat) : Bool := (List.range N).all fun t => Nat.blt t m || (List.range t).all fun j => fl.contains j || (ms.getD t 0).testBit j
def freeAt (l : List Oper) (i : Nat) : Bool :=
  match l[i]? with
  | none => false
  | some oi => (List.range l.length).all fun j => j == i || depOn oi j || match l[j]? with
      | some oj => oj.after.any (fun e => Region.binds .any e && e.on == i) || oi.apart l.toArray oj
      | none => true
def freesB (l : List Oper) (fl : List Nat) : Bool := fl.all (freeAt l)
theorem freeAt_spec {l : List Oper} {i : Nat} {oi : Oper} (hi : l[i]? = some oi) (h : freeAt l i = true) {listed : Array Bool} (hp : ∀ e ∈ oi.after, Region.binds .any e = true → listed.getD e.on false = true) (j : Nat) (oj : Oper)
    (hj : l.toArray[j]? = some oj) (hne : j ≠ i) (hun : listed.getD j true = false) (hno : ∀ e ∈ oj.after, Region.binds .any e = true → e.on ≠ i) : oi.apart l.toArray oj = true := by
  have hj : l[j]? = some oj := by simpa using hj
  simp only [freeAt, hi] at h
  have h1 := List.all_eq_true.1 h j (List.mem_range.2 (List.getElem?_eq_some_iff.1 hj).1)
  simp only [hj, Bool.or_eq_true, beq_iff_eq, hne, false_or] at h1
  rcases h1 with h1 | h1 | h1
  · obtain ⟨e, he, hb, hon⟩ := depOn_spec h1
    have := hp e he hb
    rw [hon] at this
    rcases Nat.lt_or_ge j listed.size with h' | h'
    · simp [h'] at hun this; rw [hun] at this; cases this
    · simp [Array.getElem?_eq_none h'] at this
  · obtain ⟨e, he, hb⟩ := Array.any_eq_true'.1 h1
    simp only [Bool.and_eq_true, beq_iff_eq] at hb
    exact absurd hb.2 (hno e he hb.1)
  · exact h1
theorem float_all {fl : List Nat} {m : Nat} {l : List Oper} (hml : m ≤ l.length) {ss : List Spc} (hpb : parB ((floatL fl m l).take m) ((floatL fl m l).drop m) = true) (hlen : ss.length = ((floatL fl m l).take m).length) (hfr : ∀ o ∈ (floatL fl m l).take m, look L (o.dst.getD 1000000) = none) (hL : LateOK (floatL fl m l).toArray ss)
    (hab : ∀ (i : Nat) (s : Spc) (c : List PanicEntry), ss[i]? = some s → s.ab = some c → Imp W n D L M R (NoP Q (.panic c)))
    (hstep : ∀ i o s, ((floatL fl m l).take m)[i]? = some o → ss[i]? = some s → Step1 P W n M R (floatL fl m l).toArray ss i o s (detL (((floatL fl m l).take m).take i) (ss.take i) L))
    (hfin : Fin W n D (wpList P (floatL fl m l).toArray (NoP Q) ((floatL fl m l).drop m)) ((floatL fl m l).take m) ss L M R)
    (hfl : FlOK P n L ((floatL fl m l).take m) ss fl) (hns : Region.noSelect l.toArray = true) (hbk : backB l = true) (htl : tailF fl (masks l []) m l.length = true) (hfs : freesB l fl = true) :
    ∀ (fuel : Nat) (listed : Array Bool) (a : Act) (w : World), J W n D L M R (floatL fl m l).toArray ((floatL fl m l).take m) ss listed a w → unl l.length listed ≤ fuel → wpAny P .any l.toArray (NoP Q) fuel listed a w := by
  have hflat := hfl.at
  have hFat := floatL_at fl m l
  have hFlen := floatL_len fl m l
  generalize hF : floatL fl m l = F at *
  have hsplit : F.take m ++ F.drop m = F := List.take_append_drop m F
  have hmF : (F.take m).length = m := by rw [List.length_take]; omega
  have hlow : ∀ j, j < m → F[j]? = l[j]? := fun j hj => by
    rw [hFat j]; cases l[j]? with
    | none => rfl
    | some o => simp [hj]
  have hfree : ∀ j, j < m → (F.take m)[j]? = l[j]? := fun j hj => by rw [List.getElem?_take, if_pos hj, hlow j hj]
  have hlate : LateOK (F.take m ++ F.drop m).toArray ss := by rw [hsplit]; exact hL
  have hst' : ∀ i o s, (F.take m)[i]? = some o → ss[i]? = some s → Step1 P W n M R (F.take m ++ F.drop m).toArray ss i o s (detL ((F.take m).take i) (ss.take i) L) := by rw [hsplit]; exact hstep
  have hclosed : ∀ listed, Closed F.toArray listed → Closed l.toArray listed := fun listed hc j o ho hj e he hb => by
    have ho : l[j]? = some o := by simpa using ho
    refine hc j (if j < m then o else addE fl o) (by rw [List.getElem?_toArray, hFat, ho]; rfl) hj e ?_ hb
    split
    · exact he
    · unfold addE; exact Array.mem_append_left _ he
  have hback : ∀ i o, l[i]? = some o → ∀ e ∈ o.after, Region.binds .any e = true → e.on < i := by
    intro i o ho e he hbi
    have hlt : i < l.length := (List.getElem?_eq_some_iff.1 ho).1
    have := List.all_eq_true.1 hbk i (List.mem_range.2 hlt)
    rw [ho] at this
    have := Array.all_eq_true_iff_forall_mem.1 this e he
    simpa [hbi] using this
  intro fuel
  induction fuel with
  | zero =>
    intro listed a w hJ hu
    have hsz : listed.size = l.length := by rw [hJ.size]; simp [hFlen]
    have hall : ∀ i ∈ fl, listed.getD i false = true := fun i hi => by
      obtain ⟨o, v, d, ho, _⟩ := hflat i hi
      have hi' : i < m := by have := (List.getElem?_eq_some_iff.1 ho).1; omega
      cases h : listed.getD i true with
      | true =>
        have : i < listed.size := by omega
        simp [this] at h ⊢; exact h
      | false =>
        have := unl_set (N := l.length) (i := i) (by omega) hsz h
        omega
    refine float_any (fl := fl) (m := m) 0 listed a w hall ?_
    rw [hF, ← hsplit]
    replace hJ : J W n D L M R (F.take m ++ F.drop m).toArray (F.take m) ss listed a w := by rw [hsplit]; exact hJ
    exact par_any hpb hlen hfr hlate hab hst' (by rw [hsplit]; exact hfin) 0 listed a w hJ (by rw [hsplit, hFlen]; exact hu)
  | succ fuel ih =>
    intro listed a w hJ hu
    have hsz : listed.size = l.length := by rw [hJ.size]; simp [hFlen]
    have hboth : ∀ j, j < l.length → listed.getD j true = listed.getD j false := fun j hj => by
      have : j < listed.size := by omega
      simp [this]
    by_cases hall : ∀ i ∈ fl, listed.getD i false = true
    · refine float_any (fl := fl) (m := m) (fuel + 1) listed a w hall ?_
      rw [hF, ← hsplit]
      replace hJ : J W n D L M R (F.take m ++ F.drop m).toArray (F.take m) ss listed a w := by rw [hsplit]; exact hJ
      exact par_any hpb hlen hfr hlate hab hst' (by rw [hsplit]; exact hfin) (fuel + 1) listed a w hJ (by rw [hsplit, hFlen]; exact hu)
    · by_cases hrd : ∃ i ∈ fl, i ∈ Region.ready .any l.toArray listed
      · obtain ⟨i, hi, hir⟩ := hrd
        obtain ⟨o, v, d, ho, hs, hg, hdst, hdn, hpure⟩ := hflat i hi
        have him : i < m := by have := (List.getElem?_eq_some_iff.1 ho).1; omega
        have hol : l[i]? = some o := by rw [← hfree i him]; exact ho
        obtain ⟨h0, o', ho', hp⟩ := mem_ready.1 hir
        have ho' : l[i]? = some o' := by simpa using ho'
        rw [hol] at ho'; cases ho'
        have hJ' : J W n D L M R (F.take m ++ F.drop m).toArray (F.take m) ss listed a w := by rw [hsplit]; exact hJ
        obtain ⟨a', g, f1, hex, hgv, hS⟩ := frame_at hpb hlen hfr hlate hab hst' hJ' ho hp
        have hirF : i ∈ Region.ready .any (F.take m ++ F.drop m).toArray listed := by
          rw [hsplit]
          exact mem_ready.2 ⟨h0, o, by rw [List.getElem?_toArray, hlow i him]; exact hol, hp⟩
        have hy : Go.Yields P l.toArray o v a := .inl ⟨by simp [Region.wanted, hg], fun w => by rw [hex]; exact hpure a' f1 w⟩
        refine wpAny_first (i := i) (oi := o) (v := v) (by simpa using hol) (Region.noSelect_spec hns) (fun _ _ _ hx => hx.elim) fuel listed a w (freeAt_spec hol (List.all_eq_true.1 hfs i hi) hp) hir hy ?_
        · have hnd : Inj (F.take m) := by
            simp only [parB, Bool.and_eq_true] at hpb
            exact injB_sound hpb.1.1.2
          have hset : (resOf ss listed g (F.take m).length ++ M).Perm (restOf ss listed g (F.take m).length i ++ M) := by
            refine List.Perm.append_right M (List.Perm.of_eq ?_)
            refine flatMap_same _ _ _ fun j hj => ?_
            by_cases e : j = i
            · subst e
              have : listed.getD j false = false := by rw [← hboth j (by omega)]; exact h0
              rw [if_pos rfl, this, hs]; rfl
            · rw [if_neg e]
          have hJn := hJ.next (v := v) (o := o) (s := Spc.q v) (i := i) (w' := w) hnd hfr (by simp [hFlen, hmF]; omega) (by rw [← hsplit]; exact hirF) (by rw [List.getElem?_toArray, hlow i him]; exact hol) ho hs (by rw [hdst]; exact hdn) rfl rfl hL hgv (hS.perm hset)
          refine ih _ _ _ hJn ?_
          have := unl_set (N := l.length) (i := i) (by omega) hsz h0
          omega
      · have hex : ∃ i, (i ∈ fl ∧ listed.getD i false = false) := by
          apply Classical.byContradiction
          intro hne
          refine hall fun i hi => ?_
          cases h : listed.getD i false
          · exact absurd ⟨i, hi, h⟩ hne
          · rfl
        obtain ⟨k, ⟨hk, hkf⟩, hkm⟩ := least hex
        obtain ⟨ok, vk, dk, hok, _⟩ := hflat k hk
        have hkm' : k < m := by have := (List.getElem?_eq_some_iff.1 hok).1; omega
        have hokl : l[k]? = some ok := by rw [← hfree k hkm']; exact hok
        have hlt : ∀ j, j ∈ Region.ready .any l.toArray listed → j < m := by
          intro j hj
          rcases Nat.lt_or_ge j m with h | h
          · exact h
          · exfalso
            obtain ⟨j0, o, hoj, hp⟩ := mem_ready.1 hj
            have hoj' : l[j]? = some o := by simpa using hoj
            have hjl : j < l.length := (List.getElem?_eq_some_iff.1 hoj').1
            have h1 := List.all_eq_true.1 htl j (List.mem_range.2 hjl)
            simp only [Bool.or_eq_true] at h1
            have hnon : ∀ t, t < j → t ∉ fl → listed.getD t false = true := fun t ht hnf => by
              rcases h1 with h1 | h1
              · have : j < m := by simpa using h1
                omega
              · have h2 := List.all_eq_true.1 h1 t (List.mem_range.2 ht)
                simp only [Bool.or_eq_true, List.contains_eq_mem, decide_eq_true_eq] at h2
                rcases h2 with h2 | h2
                · exact absurd h2 hnf
                · exact (masks_sound (ops := l.toArray) (hclosed listed hJ.closed) l [] (fun j => by simp) (fun i hi => by simp at hi)).1 j o (Nat.zero_le _) hoj hp t h2
            refine hrd ⟨k, hk, mem_ready.2 ⟨by rw [hboth k (by omega)]; exact hkf, ok, by simpa using hokl, fun e he hb => ?_⟩⟩
            have hek := hback k ok hokl e he hb
            by_cases hef : e.on ∈ fl
            · cases h : listed.getD e.on false
              · exact absurd ⟨hef, h⟩ (hkm e.on hek)
              · rfl
            · exact hnon e.on (by omega) hef
        refine ⟨fun hr => ?_, fun j hj => ?_⟩
        · exfalso
          have hex2 : ∃ t, t < l.length ∧ listed.getD t false = false := ⟨k, by omega, hkf⟩
          obtain ⟨t, ⟨ht, htf⟩, htm⟩ := least hex2
          have : t ∈ Region.ready .any l.toArray listed := mem_ready.2 ⟨by rw [hboth t ht]; exact htf, l[t], by simp, fun e he hb => by
            have hlt2 := hback t l[t] (List.getElem?_eq_getElem ht) e he hb
            cases h : listed.getD e.on false
            · exact absurd ⟨by omega, h⟩ (htm e.on hlt2)
            · rfl⟩
          rw [hr] at this; cases this
        · have hjm := hlt j hj
          obtain ⟨j0, o, hoj, hp⟩ := mem_ready.1 hj
          have hoj' : l[j]? = some o := by simpa using hoj
          refine float_op (fl := fl) (m := m) ?_
          rw [hF, ← hsplit]
          replace hJ : J W n D L M R (F.take m ++ F.drop m).toArray (F.take m) ss listed a w := by rw [hsplit]; exact hJ
          refine par_step hpb hlen hfr hlate hab hst' hJ (mem_ready.2 ⟨j0, o, ?_, hp⟩) (by omega) _ fun a' w' hJ' => ih _ _ _ (by rw [hsplit] at hJ'; exact hJ') ?_
          · rw [List.getElem?_toArray, hsplit, hlow j hjm]; exact hoj'
          · have := unl_set (N := l.length) (i := j) (by have := (List.getElem?_eq_some_iff.1 hoj').1; omega) hsz j0
            omega
theorem r_parF {id : Nat} {l : List Oper} (fl : List Nat) (m : Nat) (hml : Nat.ble m l.length = true) (hns : Region.noSelect l.toArray = true) (hbk : backB l = true) (htl : tailF fl (masks l []) m l.length = true) (hfs : freesB l fl = true)
    (hm : P.follows .mixedOrders = true) (hpb : parB ((floatL fl m l).take m) ((floatL fl m l).drop m) = true) (hfr : freshB L ((floatL fl m l).take m) = true)
    (h : ParO P W n M R (floatL fl m l).toArray (fun ss => FlOK P n L ((floatL fl m l).take m) ss fl ∧ preOf ss = [] ∧ lateX (floatL fl m l).toArray ss = true ∧ Fin W n D (wpList P (floatL fl m l).toArray (NoP Q) ((floatL fl m l).drop m)) ((floatL fl m l).take m) ss L M R) ((floatL fl m l).take m) [] L) : Imp W n D L M R ((Code.region id l.toArray true).wp P Q) := by
  have hml : m ≤ l.length := by simpa using hml
  intro a w h1 h2 h3
  refine Code.wp_mono (Q := NoP Q) (fun e a' w' he => ?_) ?_
  · cases e with
    | normal => exact he
    | _ => exact he.elim
  refine wp_region_any hm ?_
  obtain ⟨ss, hl, ⟨hsi, hpre, hlx, hfin⟩, hs⟩ := ParO.out ((floatL fl m l).take m) [] L h
  rw [List.nil_append] at hsi hpre hlx hfin
  have hLB : lateB (floatL fl m l).toArray ss 0 ss = true := by simp only [lateX, Bool.and_eq_true] at hlx; exact hlx.1
  have hlk : ∀ o ∈ (floatL fl m l).take m, look L (o.dst.getD 1000000) = none := fun o ho => by
    have := List.all_eq_true.1 hfr o ho
    simpa using this
  refine float_all hml hpb hl hlk (lateOK_of hLB) (fun k s c e1 e2 => (lateX_ab hlx k s c e1 e2).elim) (fun k o s e1 e2 => by
    have := hs k o s e1 e2
    rw [List.nil_append, List.length_nil, Nat.zero_add] at this
    exact this) hfin hsi hns hbk htl hfs _ _ _ _ ⟨?_, ?_, ?_, h1, h2, fun _ => undef, ?_, ?_⟩ ?_
  · simp [floatL_len]
  · intro j o _ hj
    rw [rep_false] at hj; cases hj
  · intro t _ ht
    have : t < l.length := by simpa [floatL_len] using ht
    simp [this]
  · intro i o s e1 _ hj
    rw [rep_false] at hj; cases hj
  · have e1 : resOf ss (Array.replicate l.toArray.size false) (fun _ => undef) ((floatL fl m l).take m).length = [] := by
      rw [← hpre, ← preOf_range, hl]
      refine flatMap_same _ _ _ fun j hj => ?_
      rw [rep_false]; rfl
    have e2 : ∀ k, fctOf ss (Array.replicate l.toArray.size false) (fun _ => undef) k = [] := by
      intro k
      unfold fctOf
      induction k with
      | zero => rfl
      | succ k ih => rw [List.range_succ, List.flatMap_append, ih, List.nil_append, List.flatMap_cons, List.flatMap_nil, List.append_nil, rep_false]; rfl
    rw [e1, e2]
    exact h3.heap rfl rfl rfl rfl
  · have := unl_tail (N := l.length) (m := 0) (listed := Array.replicate l.length false) (fun i hi => by omega)
    simpa using this
theorem p_nilF {ops : Array Oper} {F : List Spc → Prop} {G : List Spc → Prop} {P0 : List Res} {acc acc' : List Spc} (e : acc = acc') (hp : preOf acc' = P0) (hi : G acc') (h : F acc') (hl : lateX ops acc' = true := by rfl) : ParO P W n M R ops (fun ss => G ss ∧ preOf ss = P0 ∧ lateX ops ss = true ∧ F ss) [] acc L := by
  subst e
  exact ⟨hi, hp, hl, h⟩
theorem float_move {o : Oper} {x : Operand} {v : Value} (ho : o.op = .move x) (hx : ev L x = some v) : ∀ a, FSat n L a → ∀ w, (execOp a.eval o).run P w = .ok (.value v) w := fun a h w => by
  simp [execOp, ho, h.ev hx]
theorem float_add {o : Oper} {t u : TypeId} {x y : Operand} {b c : Int} (ho : o.op = .binOp .add t x y u) (hx : ev L x = some (.int .i64 b)) (hy : ev L y = some (.int .i64 c)) (h : -9223372036854775808 ≤ b + c ∧ b + c ≤ 9223372036854775807) : ∀ a, FSat n L a → ∀ w, (execOp a.eval o).run P w = .ok (.value (.int .i64 (b + c))) w := fun f h1 w => by
  simp [execOp, ho, h1.ev hx, h1.ev hy, eqGuard, binOp, Op.intArith, IntWalk.i64_in _ h]
end Go.G

namespace Go.G
variable {P : Program} {W : World} {n : Nat} {D : List Deferred} {L : Tm} {M : List Res} {R : List Fact} {Q : Exit → Act → World → Prop} {o : Oper}
theorem run_appZ1 {α : Type} {enc : α → List Value} {sz b c : Nat} {v : Value} {xs : List α} {M' : List Res} {t ty e : TypeId} {i : TypeInfo} {z : Value} {w : World} (y : α) (g4 : St W (ownZ v e sz enc xs :: M') R w) (ht : P.underlying t = some (.slice e)) (hi : P.info? e = some i) (hz : i.zero = some z) (hsz : i.size = sz) (hzs : z.cells.size = sz) (henc : ∀ x, (enc x).length = sz)
    (hcell : ∀ j u, (enc y)[j]? = some u → w.cell? ((⟨b, 0, none⟩ : Addr).add j) = some u) (h1 : oneCells (enc y) = true) (hbd : xs.length ≤ 1000000 ∧ i.bytes ≤ 1000000) :
    ∃ v' w', (Builtin.append_ #[t, t] ty #[v, .slice (some ⟨b, 0, none⟩) 1 c]).run P w = .ok v' w' ∧ St W (ownL v' e sz enc (xs ++ [y]) :: M') R w' := by
  have hl : (enc y).length = 1 * sz := by rw [henc, Nat.one_mul]
  rcases g4.ownZ_cases with ⟨⟨oa, rfl⟩, rfl, g5⟩ | g5
  · subst hsz
    have hgr := g5.newOwn (e := e) (z := z) (i := i) rfl hzs henc [y] (old := 0) (by simp [maxLen]) (by simp) (cs := (enc y).toArray) (by simp)
    have hby : 1 * i.bytes ≤ 140737488355328 := by omega
    cases oa with
    | none =>
      have hr := Go.run_append_nil (P := P) w t ty e i z ht hi hz ⟨b, 0, none⟩ 1 c (enc y) hl hcell (by omega) (by omega) (by omega)
      exact ⟨_, _, hr, by simpa using hgr⟩
    | some ad =>
      have hr := run_append_grow (P := P) w t ty e i z ht hi hz ad 0 0 [] (by simp) (by simp) ⟨b, 0, none⟩ 1 c (enc y) hl hcell (by omega) (by omega) (growslice_fits (by omega) (by rw [Nat.zero_add]; exact hby))
      simp only [Nat.zero_add] at hr
      exact ⟨_, _, hr, by simpa using hgr⟩
  · have hby : (xs.length + 1) * i.bytes ≤ 140737488355328 := by
      have : (xs.length + 1) * i.bytes ≤ 1000001 * 1000000 := Nat.mul_le_mul (by omega) hbd.2
      omega
    obtain ⟨v', w', hr, hw'⟩ := run_append (P := P) (ty := ty) (c := c) (k := 1) g5 ht hi hz hsz hzs hcell hl (oneCells_mem h1) (by simp only [maxLen]; omega) hby (M' := M') ⟨[], M', rfl, rfl⟩
    refine ⟨v', w', hr, ?_⟩
    unfold ownL
    simpa using hw'
def Spc.ozl {α : Type} (e : TypeId) (sz : Nat) (enc : α → List Value) (ys : List α) (kT : Nat) : Spc := ⟨none, fun _ => True, fun v => [ownZ v e sz enc ys], fun _ => [], [], some (kT, fun _ => []), none, none⟩
theorem p_appNL {α : Type} {enc : α → List Value} {ops : Array Oper} {K : List Spc → Prop} {rest : List Oper} {acc : List Spc} {d x : Nat} {y : Operand} {t e : TypeId} {i : TypeInfo} {z : Value} {sz c : Nat} {oa : Option Addr} {ys : List α} (kT j : Nat) {oj : Oper} [hrow : HasRow oa R sz enc ys] (hoj : ops[j]? = some oj) (hx : oj.dst.getD 1000000 = x) (hsj : acc[j]? = some Spc.l0) (hdep : depD ops o j = true)
    (hg : o.guard = none) (hdst : o.dst = some d) (hd : Nat.blt d n = true) (ho : o.op = .call { callee := .builtin .append, args := #[.tmp x, y], argTypes := #[t, t] }) (ht : P.underlying t = some (.slice e)) (hi : P.info? e = some i) (hz : i.zero = some z) (hsz : i.size = sz) (hzs : z.cells.size = sz) (henc : ∀ x, (enc x).length = sz)
    (hy : ∀ u, ev ((x, u) :: L) y = some (.slice oa ys.length c)) (hbd : ys.length ≤ 1000000 ∧ i.bytes ≤ 1000000) (h : ParO P W n M R ops K rest (acc ++ [Spc.ozl e sz enc ys kT]) L) : ParO P W n M R ops K (o :: rest) acc L := by
  refine ⟨Spc.ozl e sz enc ys kT, by simp [hdst, hd], .inl ⟨rfl, .inr (.inr (.inl ⟨hg, j, oj, Spc.l0, hoj, hsj, rfl, hdep, ?_⟩))⟩, by simpa [addL, Spc.ozl] using h⟩
  rintro u ⟨b, rfl⟩
  rw [hx]
  intro Mx Rx a w g1 g3
  have g3 : St W (Mx ++ M) (Rx ++ R) w := g3
  obtain ⟨v', w', hr, hw'⟩ := run_appN (P := P) (ty := o.type) (c := c) (b := b) g3 (List.mem_append_right _ hrow.mem) henc ht hi hz hsz hzs hbd
  have hxe : ev ((x, Value.slice (some ⟨b, 0, none⟩) 0 0) :: L) (.tmp x) = some (.slice (some ⟨b, 0, none⟩) 0 0) := by simp [ev, look_cons_eq]
  have hrun : (execOp a.eval o).run P w = .ok (.value v') w' := by
    unfold execOp
    simp only [ho, resolve, invoke, builtin, Sem.run_bind, Sem.run_pure, Result.andThen_ok, List.map_toArray, List.map_cons, List.map_nil, g1.ev hxe, g1.ev (hy _), hr]
  rw [hrun]
  exact ⟨trivial, hw'⟩
theorem f_ozl {α : Type} {X : Act → World → Prop} {os : List Oper} {ss : List Spc} {e : TypeId} {sz : Nat} {enc : α → List Value} {ys : List α} {kT d : Nat} (hdst : o.dst = some d) (h : ∀ v, Fin W n D X os ss ((d, v) :: L) M R) : Fin W n D X (o :: os) (Spc.ozl e sz enc ys kT :: ss) L M R := by
  show ∀ u, True → Fin W n D X os ss (putL o.dst u L) ([] ++ M) ([] ++ R)
  rw [hdst]
  intro u _
  exact h u
def Spc.apt {α : Type} (e : TypeId) (sz : Nat) (enc : α → List Value) (ys : List α) (j : Nat) : Spc := Spc.s6 none (fun _ => True) (fun v => [ownL v e sz enc ys]) j
theorem p_appT {α : Type} {enc : α → List Value} {ops : Array Oper} {K : List Spc → Prop} {rest : List Oper} {acc : List Spc} {d x x2 : Nat} {t e e2 : TypeId} {i : TypeInfo} {z : Value} {sz : Nat} {ys : List α} {cs : List Value} (j q : Nat) (y : α) {oj oq : Oper} (hoj : ops[j]? = some oj) (hx : oj.dst.getD 1000000 = x) (hsj : acc[j]? = some (Spc.ozl e sz enc ys acc.length)) (hdep : depD ops o j = true) (hoq : ops[q]? = some oq) (hx2 : oq.dst.getD 1000000 = x2) (hsq : acc[q]? = some (Spc.lit 1 e2 cs)) (hdepq : depD ops o q = true) (hne : Nat.beq x2 x = false)
    (hg : o.guard = none) (hdst : o.dst = some d) (hd : Nat.blt d n = true) (ho : o.op = .call { callee := .builtin .append, args := #[.tmp x, .tmp x2], argTypes := #[t, t] }) (ht : P.underlying t = some (.slice e)) (hi : P.info? e = some i) (hz : i.zero = some z) (hsz : i.size = sz) (hzs : z.cells.size = sz) (henc : ∀ x, (enc x).length = sz)
    (hcs : cs = enc y) (h1 : oneCells cs = true) (hbd : ys.length ≤ 1000000 ∧ i.bytes ≤ 1000000) (h : ParO P W n M R ops K rest (acc ++ [Spc.apt e sz enc (ys ++ [y]) j]) L) : ParO P W n M R ops K (o :: rest) acc L := by
  subst hcs
  refine ⟨Spc.apt e sz enc (ys ++ [y]) j, by simp [hdst, hd], .inr (.inr ⟨hg, j, oj, Spc.ozl e sz enc ys acc.length, fun _ => [], none, _, _, q, oq, Spc.lit 1 e2 (enc y), rfl, hoj, hsj, rfl, rfl, hdep, hoq, hsq, rfl, hdepq, ?_⟩), by simpa [addL, Spc.apt, Spc.s6] using h⟩
  intro u _ v2 hv2
  rw [hx, hx2]
  intro Mx Rx a w g1 g3
  have g3 : St W (Mx ++ ([ownZ u e sz enc ys] ++ M)) (Rx ++ ([boxF (sblk v2) e2 (enc y)] ++ ([] ++ R))) w := g3
  have g4 : St W (ownZ u e sz enc ys :: (Mx ++ M)) (Rx ++ ([boxF (sblk v2) e2 (enc y)] ++ ([] ++ R))) w := g3.perm (by
    rw [← List.append_assoc]
    exact (List.perm_append_comm.append_right M).trans (by simp))
  have hv2 : v2 = .slice (some ⟨sblk v2, 0, none⟩) 1 1 := hv2
  have hcell : ∀ j u, (enc y)[j]? = some u → w.cell? ((⟨sblk v2, 0, none⟩ : Addr).add j) = some u := fun j u hu => by rw [add_at, Nat.zero_add, g3.cellF (List.mem_append_right Rx (List.mem_append_left _ (List.mem_singleton.2 rfl)))]; exact hu
  obtain ⟨v', w', hr, hw'⟩ := run_appZ1 (P := P) (ty := o.type) (c := 1) (b := sblk v2) y g4 ht hi hz hsz hzs henc hcell h1 hbd
  have hxe2 : ev ((x2, v2) :: (x, u) :: L) (.tmp x2) = some v2 := by simp [ev, look_cons_eq]
  have hxe : ev ((x2, v2) :: (x, u) :: L) (.tmp x) = some u := by
    simp only [ev]
    rw [look_cons_ne (by intro e; subst e; simp at hne), look_cons_eq]
  rw [← hv2] at hr
  have hrun : (execOp a.eval o).run P w = .ok (.value v') w' := by
    unfold execOp
    simp only [ho, resolve, invoke, builtin, Sem.run_bind, Sem.run_pure, Result.andThen_ok, List.map_toArray, List.map_cons, List.map_nil, g1.ev hxe, g1.ev hxe2, hr]
  rw [hrun]
  exact ⟨trivial, hw'⟩
theorem f_apt {α : Type} {X : Act → World → Prop} {os : List Oper} {ss : List Spc} {e : TypeId} {sz : Nat} {enc : α → List Value} {ys : List α} {j d : Nat} (hdst : o.dst = some d) (h : ∀ v, Fin W n D X os ss ((d, v) :: L) (ownL v e sz enc ys :: M) R) : Fin W n D X (o :: os) (Spc.apt e sz enc ys j :: ss) L M R := by
  show ∀ u, True → Fin W n D X os ss (putL o.dst u L) ([ownL u e sz enc ys] ++ M) ([] ++ R)
  rw [hdst]
  intro u _
  exact h u
end Go.G

namespace Go.G
open Go.ChangeShapes Go.RowKit Go.Deep
section
variable {H : Type} {en : TypeId × Value → H} {P : Program} {w : World} {base : Nat} {sp : Nat → Bool} {held : Bool}
theorem mapM_at {α β : Type} {f : α → Option β} : ∀ {l : List α} {r : List β}, l.mapM f = some r → r.length = l.length ∧ ∀ (j : Nat) (x : α), l[j]? = some x → f x = r[j]?
  | [], r, h => by
    simp at h; subst h; simp
  | a :: l, r, h => by
    rw [List.mapM_cons] at h
    simp only [bind, Option.bind_eq_some_iff, pure, Option.some.injEq] at h
    obtain ⟨b, hb, bs, hbs, rfl⟩ := h
    obtain ⟨h1, h2⟩ := mapM_at hbs
    refine ⟨by simp [h1], fun j x hj => ?_⟩
    cases j with
    | zero => simp at hj; subst hj; simpa using hb
    | succ j => simpa using h2 j x (by simpa using hj)
theorem cells_at {a : Addr} {n : Nat} {cs : List Value} (h : w.cells? base a n = some cs) : cs.length = n ∧ ∀ j, j < n → w.cell? (a.add j) = cs[j]? := by
  unfold World.cells? at h
  split at h
  · obtain ⟨h1, h2⟩ := mapM_at h
    exact ⟨by simpa using h1, fun j hj => h2 j j (by simp [hj])⟩
  · cases h
theorem open_rowD {α : Type} [Inhabited α] {enc : α → List Value} {sz : Nat} (ok : α → Prop) {t e : TypeId} {fuel : Nat} {cs : List Value} {x : DataW H × List MemPlace} (ht : P.underlying t = some (.slice e)) (hc : P.cellsOf e = sz) (hpos : 0 < sz)
    (hel : ∀ fuel cs x, DataW.trod en P w base sp held fuel e cs = some x → ∃ y : α, cs = enc y ∧ ok y) (h : DataW.trod en P w base sp held fuel t cs = some x) :
    ∃ (oa : Option Addr) (cap : Nat) (xs : List α), cs = [.slice oa xs.length cap] ∧ rowD oa sz enc xs (full w) ∧ (∀ y ∈ xs, ok y) ∧ xs.length ≤ maxLen := by
  rcases open_slice ht h with ⟨rfl, _⟩ | ⟨a, len, cap, m, n, D, Pl, rfl, _, hlc, hcm, hm, _, hall⟩
  · exact ⟨none, 0, [], rfl, .inl rfl, by simp, Nat.zero_le _⟩
  · have hle : len ≤ m := by rw [hm]; split <;> omega
    have hch : ∀ i, i < len → ∃ y : α, w.cells? base (a.add (i * sz)) sz = some (enc y) ∧ ok y := by
      intro i hi
      obtain ⟨cs', h1, h2⟩ := hall i (by omega)
      obtain ⟨y, rfl, hy⟩ := hel _ _ _ h2
      rw [hc] at h1
      exact ⟨y, h1, hy⟩
    obtain ⟨f, hf⟩ := choose_lt hch
    refine ⟨some a, cap, (List.range len).map f, by simp, ?_, ?_, by simp; omega⟩
    · by_cases h0 : len = 0
      · subst h0; exact .inl rfl
      · obtain ⟨c1, c2⟩ := cells_at (hf 0 (by omega)).1
        have hz := c2 0 hpos
        have hsome : ∃ v, w.cell? ((a.add (0 * sz)).add 0) = some v := ⟨(enc (f 0))[0]'(by omega), by rw [hz]; simp [show 0 < (enc (f 0)).length from by omega]⟩
        obtain ⟨v, hv⟩ := hsome
        have ha0 : (a.add (0 * sz)).add 0 = a := by simp [Addr.add]
        rw [ha0] at hv
        unfold World.cell? at hv
        split at hv
        · rename_i C T fr hb
          split at hv
          · cases hv
          · rename_i hs
            obtain ⟨b, off, spot⟩ := a
            have hsp : spot = none := by cases spot <;> simp_all
            subst hsp
            refine .inr ⟨b, off, C, T, fr, rfl, hb, fun i j hi hj => ?_⟩
            have hi' : i < len := by simpa using hi
            obtain ⟨_, d2⟩ := cells_at (hf i hi').1
            have := d2 j hj
            rw [add_at, add_at] at this
            rw [cell_of_row w b _ C T fr hb] at this
            rw [this]
            simp
        · cases hv
    · intro y hy
      obtain ⟨i, hi, rfl⟩ := List.mem_map.1 hy
      exact (hf i (by simpa using hi)).2
theorem open_i {t : TypeId} {k : IntKind} {fuel : Nat} {cs : List Value} {x : DataW H × List MemPlace} (ht : P.underlying t = some (.int k)) (h : DataW.trod en P w base sp held fuel t cs = some x) : ∃ n, cs = [.int k n] ∧ (Lit.int k n).wf = true := by
  obtain ⟨n, h1, _, h2⟩ := DataW.trod_int ht h
  exact ⟨n, h1, h2⟩
theorem open_field {t : TypeId} {fs : Array Field} {fuel : Nat} {cs : List Value} {x : DataW H × List MemPlace} (ht : P.underlying t = some (.struct fs)) (h : DataW.trod en P w base sp held fuel t cs = some x) (i : Nat) {f : Field} (hf : fs[i]? = some f) {n : Nat} (hn : P.cellsOf f.type = n) :
    ∃ fuel' y, DataW.trod en P w base sp held fuel' f.type ((cs.drop f.offset).take n) = some y := by
  obtain ⟨xs, m, _, _, _, hl, hall⟩ := DataW.trod_struct ht h
  have hi : i < xs.length := by rw [hl]; exact (Array.getElem?_eq_some_iff.1 hf).1
  have := hall i f hf
  rw [hn, List.getElem?_eq_getElem hi] at this
  exact ⟨m, _, this⟩
theorem open_len {t : TypeId} {fs : Array Field} {fuel : Nat} {cs : List Value} {x : DataW H × List MemPlace} (ht : P.underlying t = some (.struct fs)) (h : DataW.trod en P w base sp held fuel t cs = some x) : cs.length = P.cellsOf t := (DataW.trod_struct ht h).choose_spec.choose_spec.2.2.1
end
def keepF (W : World) : Fact := fun V => ∀ b o, W.heap[b]? = some o → V b = some o
theorem vw_nil (w : World) : vw [] w = full w := by funext b; simp [vw, full]
theorem St.start (W : World) {R : List Fact} (h : ∀ φ ∈ R, Mono φ ∧ φ (full W)) : St W [] R W := by
  refine ⟨rfl, rfl, rfl, [], rfl, ⟨by simp [keys], by simp⟩, fun φ hφ => ?_⟩
  obtain ⟨hm, hv⟩ := h φ hφ
  rw [vw_nil]
  exact fun V' hl => hm _ _ hv hl
theorem Mono.keep (W : World) : Mono (keepF W) := fun _ _ h hl b o ho => hl _ _ (h b o ho)
theorem keepF_self (W : World) : keepF W (full W) := fun _ _ h => h
theorem below_of {W w' : World} {M : List Res} {R : List Fact} (h : St W M (R ++ [keepF W]) w') : Below W.heap.size W w' := by
  have hk : keepF W (full w') := h.fact (List.mem_append_right _ (by simp))
  have hb : ∀ k, k < W.heap.size → w'.heap[k]? = W.heap[k]? := fun k hk' => by
    have e : W.heap[k]? = some W.heap[k] := by simp [hk']
    rw [e]; exact hk k _ e
  refine ⟨h.os, h.tape, h.output, ?_, hb⟩
  rcases Nat.eq_zero_or_pos W.heap.size with h0 | h0
  · omega
  · have := hb (W.heap.size - 1) (by omega)
    rw [show W.heap[W.heap.size - 1]? = some W.heap[W.heap.size - 1] from by simp [h0]] at this
    have := (Array.getElem?_eq_some_iff.1 this).1
    omega
theorem FnV.law {P : Program} {k : FuncId} {args : List Value} {R : List Fact} {v : Value} (h : FnV P k args R v) (W : World) (hR : ∀ φ ∈ R, Mono φ ∧ φ (full W)) : Calls P k args.toArray W fun e w' => e = .returned v ∧ Below W.heap.size W w' := by
  have hs : St W [] (R ++ [keepF W]) W := St.start W (fun φ hφ => by
    rcases List.mem_append.1 hφ with h1 | h1
    · exact hR φ h1
    · have : φ = keepF W := by simpa using h1
      subst this
      exact ⟨Mono.keep W, keepF_self W⟩)
  exact (h.calls W [] [keepF W] W hs).mono fun e w' ⟨he, hw⟩ => ⟨he, below_of hw⟩
section
variable {H : Type} {en : TypeId × Value → H} {P : Program}
theorem trodAll_stays (hl : laidOutB P = true) {W W' : World} (hb : Below W.heap.size W W') : ∀ {ts : List TypeId} {vs : List Value} {ds : List (DataW H)} {ps : List MemPlace}, (ts.all fun t => P.readableRec t && Nat.blt t P.types.size) = true →
    DataW.TrodAll en P W 0 (fun _ => true) true ts vs ds ps → (∀ p ∈ ps, p.block < W.heap.size) → ∀ sp : Nat → Bool, (∀ p ∈ ps, sp p.block = true) → DataW.TrodAll en P W' 0 sp true ts vs ds ps
  | [], vs, ds, ps, _, h, _, sp, _ => by
    obtain ⟨rfl, rfl, rfl⟩ := trodAll_nil h
    exact rfl
  | t :: ts, vs, ds, ps, ht, h, hp, sp, hsp => by
    obtain ⟨v, vs', d, ds', p, q, rfl, rfl, rfl, h1, h2⟩ := trodAll_cons h
    simp only [List.all_cons, Bool.and_eq_true] at ht
    refine ⟨p, q, ?_, trodAll_stays hl hb ht.2 h2 (fun x hx => hp x (List.mem_append_right _ hx)) sp (fun x hx => hsp x (List.mem_append_right _ hx)), rfl⟩
    exact WideElems.Trod_stays hl ht.1.1 (by simpa using ht.1.2) h1 (fun x hx => hb.same (hp x (List.mem_append_left _ hx))) (fun x hx => hsp x (List.mem_append_left _ hx))
theorem post_of_below {f : Func} {s : ChangeSpec} {W W' : World} {args : Array Value} {ds gs : List (DataW H)} {before : List MemPlace} {tb : TypeId}
    (hW : DataW.Whole en P f.params.toList s.vars false W args.toList ds gs before) (hv : s.vars = []) (hl : laidOutB P = true) (hts : (f.params.toList.all fun t => P.readableRec t && Nat.blt t P.types.size) = true)
    (hr : f.resultTypes = #[tb]) (hb : P.underlying tb = some .bool) (hs : s.fn H ds = { results := [.lit (.bool true)], args := ds, vars := [] }) (hbl : Below W.heap.size W W') : s.post en P f false true false false W args (.bool true) W' := by
  have hW0 := hW
  obtain ⟨p, q, hA, hV, hpq, hz, hn⟩ := hW
  rw [hv] at hV
  obtain ⟨rfl, rfl⟩ := trodVars_none hV
  have hbe : before = p := by simpa using hpq
  subst hbe
  have hlt : ∀ x ∈ before, x.block < W.heap.size := hW0.lt
  have hargs : ∀ sp : Nat → Bool, (∀ x ∈ before, sp x.block = true) → DataW.TrodAll en P W' 0 sp true f.params.toList args.toList ds before := fun sp hsp => trodAll_stays hl hbl hts hA hlt sp hsp
  have hres : ∀ (b : Nat) (sp : Nat → Bool) (hd : Bool), DataW.TrodAll en P W' b sp hd f.resultTypes.toList ((Value.bool true).resultList f.resultTypes.size) [.lit (.bool true)] [] := by
    intro b sp hd
    rw [hr]
    exact trodAll_mk1 (shut_bool hb true)
  have hs' : s.fn H (ds ++ []) = { results := [.lit (.bool true)], args := ds, vars := [] } := by rw [List.append_nil]; exact hs
  have hold : ∀ x ∈ before, (fun b => decide (b < W.heap.size)) x.block = true := fun x hx => by simpa using hlt x hx
  have hargs' : ∀ sp : Nat → Bool, (∀ x ∈ before, sp x.block = true) → DataW.TrodAll en P W' 0 sp true f.params.toList args.toList (s.fn H (ds ++ [])).args before := by rw [hs']; exact hargs
  have hres' : ∀ (b : Nat) (sp : Nat → Bool) (hd : Bool), DataW.TrodAll en P W' b sp hd f.resultTypes.toList ((Value.bool true).resultList f.resultTypes.size) (s.fn H (ds ++ [])).results [] := by rw [hs']; exact hres
  have hvars' : ∀ sp : Nat → Bool, DataW.TrodVars en P W' sp s.vars (s.fn H (ds ++ [])).vars [] := by intro sp; rw [hs', hv]; rfl
  refine ⟨ds, [], before, [], before, [], hW0, hres' _ _ _, hargs' _ hold, hvars' _, hbl.frame _, fun _ => ?_⟩
  refine ⟨ok_one hr rfl (okWide_bool_mk hb true), _, _, ([] ++ before) ++ [], ⟨[] ++ before, [], trodAll_append (hargs' _ (fun _ _ => rfl)) (hres' _ _ _), hvars' _, rfl, ?_, ?_⟩, ?_⟩
  · intro b off hp
    rw [hbl.frozen (hlt _ (by simpa using hp))]
    exact hz b off (by simpa using hp)
  · intro ha; cases ha
  · intro x hx _
    simpa using hx
end
end Go.G

namespace Go.G
theorem o_fnX {P : Program} {α : Type} {W : World} {n : Nat} {D : List Deferred} {L : Tm} {M M1 : List Res} {R : List Fact} {Q : Exit → Act → World → Prop} {o : Oper} {ops : Array Oper} {rest : List Oper} {k : FuncId} {args : List Value} {R0 : List Fact} {r : Res} {g : α → Value} {Pp : α → Prop} {Mr : α → Res} {Rr : α → List Fact} {xs : List Operand} {ts : Array TypeId} {d : Nat} [hM : DelC M r M1]
    (h : FnS P k args [r] R0 (fun e M' R' => ∃ x, e = .returned (g x) ∧ Pp x ∧ M' = [Mr x] ∧ R' = Rr x)) (ho : o.op = .call { callee := .value (.func k), args := xs.toArray, argTypes := ts })
    (hx : evs L xs = some args) (hg : o.guard = none) (hdst : o.dst = some d) (hd : Nat.blt d n = true) (hs : SubR R R0)
    (hret : ∀ x, Pp x → Imp W n D ((d, g x) :: L) (Mr x :: M1) (Rr x ++ R) (wpList P ops Q rest)) : Imp W n D L M R (wpList P ops Q (o :: rest)) := by
  refine o_call h ho [] [] rfl hx (by simp) hg (by simp [okD, hdst, hd]) (Mf := M1) ⟨[], by simpa using hM.del.perm⟩ hs ?_ ?_ ?_
  · rintro v M' R' ⟨x, he, hp, rfl, rfl⟩
    cases he
    rw [hdst]
    exact hret x hp
  · rintro c M' R' ⟨x, he, _⟩; cases he
  · rintro M' R' ⟨x, he, _⟩; cases he
theorem o_fnF {P : Program} {α : Type} {W : World} {n : Nat} {D : List Deferred} {L : Tm} {M : List Res} {R : List Fact} {Q : Exit → Act → World → Prop} {o : Oper} {ops : Array Oper} {rest : List Oper} {k : FuncId} {args : List Value} {R0 : List Fact} {g : α → Value} {Rr : α → List Fact} {xs : List Operand} {ts : Array TypeId} {d : Nat}
    (h : FnS P k args [] R0 (fun e M' R' => ∃ x, e = .returned (g x) ∧ M' = [] ∧ R' = Rr x)) (ho : o.op = .call { callee := .value (.func k), args := xs.toArray, argTypes := ts })
    (hx : evs L xs = some args) (hg : o.guard = none) (hdst : o.dst = some d) (hd : Nat.blt d n = true) (hs : SubR R R0)
    (hret : ∀ x, Imp W n D ((d, g x) :: L) M (Rr x ++ R) (wpList P ops Q rest)) : Imp W n D L M R (wpList P ops Q (o :: rest)) := by
  refine o_call h ho [] [] rfl hx (by simp) hg (by simp [okD, hdst, hd]) (Mf := M) SelM.refl hs ?_ ?_ ?_
  · rintro v M' R' ⟨x, he, rfl, rfl⟩
    cases he
    rw [hdst]
    exact hret x
  · rintro c M' R' ⟨x, he, _⟩; cases he
  · rintro M' R' ⟨x, he, _⟩; cases he
theorem FnS.intro1 {P : Program} {n : Nat} {r : Res} {k : FuncId} {args : List Value} {R0 : List Fact} {Post : Ending → List Res → List Fact → Prop} {fn : Func} {c : Code} (he : ∀ (ag : Array Value) (w : World), (callFunc k ag).run P w = .ok (.enter k ag) w)
    (hf : P.funcs[k]? = some fn) (hb : fn.body = some c) (hn : fn.ntmps = n) (ha : Nat.ble args.length n = true)
    (h : ∀ W Mf Rf, Imp W n [] (argsL args 0) (r :: Mf) (R0 ++ Rf) (c.wp P (bodyPost P fn (RetE W Mf (R0 ++ Rf) Post)))) : FnS P k args [r] R0 Post := FnS.intro he hf hb hn ha h
theorem FnM.to {P : Program} {k : FuncId} {args : List Value} {m : Res} {R0 : List Fact} {u v : Value} (h : FnM P k args m R0 (fun x => x = u)) (e : u = v) : FnM P k args m R0 (fun x => x = v) := e ▸ h
theorem tmod_nat {a b : Nat} : ((a : Int)).tmod (b : Int) = ((a % b : Nat) : Int) := by
  rw [Int.tmod_eq_emod_of_nonneg (by omega)]; omega
theorem all_step {p : Nat → Prop} {k : Nat} (h : ∀ j, j < k → p j) (hk : p k) : ∀ j, j < k + 1 → p j := fun j hj => by
  by_cases e : j = k
  · subst e; exact hk
  · exact h j (by omega)
theorem Imp.run {W : World} {M : List Res} {R : List Fact} {Z : World → Prop} {w : World} (h : Imp W 0 [] [] M R (fun _ w => Z w)) (hw : St W M R w) : Z w := h _ w (FSat.entry (args := []) (n := 0) (Nat.zero_le _)) rfl hw
theorem v_bSp {P : Program} {W : World} {n : Nat} {L : Tm} {M : List Res} {R : List Fact} {o : Oper} {T : TypeId} {ps : List (Nat × Operand)} {vs us : List Value} {i : TypeInfo} {z : Value} {fs : Array Field} {pl : List (Nat × Nat)} {cs : List Value} (ho : o.op = .build T ps.toArray) (hT : P.underlying T = some (.struct fs)) (hi : P.info? T = some i) (hp : plT P T = some pl) (hz : i.zero = some z)
    (hx : evs L (ps.map (·.2)) = some vs) (hk : ps.map (·.1) = List.range ps.length) (hpl : PlaceOK (fun k => pl[k]?) 0 0 vs) [hc : CatC vs cs] (hl : cs.length ≤ z.cells.size) (hu : cs ++ z.cells.toList.drop cs.length = us) : OpQ P W n L M R o (.agg us.toArray) :=
  OpQ.of_value fun g w h1 _ => by
    have hq := parts_eq h1 hx hk
    have hf0 : cs = vs.flatMap fun v => v.cells.toList := hc.cat
    obtain ⟨arr, e1, e2⟩ := fill_seq vs 0 0 z.cells hpl (by rw [← hf0]; omega)
    have hf : Instr.fill (fun k => pl[k]?) z.cells ((List.range vs.length).zip vs) = some us.toArray := by
      rw [List.range_eq_range', e1]
      congr 1
      apply Array.ext'
      rw [e2, ← hf0, ← hu]
      simp
    simp only [execOp, ho, Instr.build, Sem.run_bind, run_zeroValue' hi hz, run_underlying hT, Result.andThen_ok, plT_run hT hp w, List.map_toArray, hq]
    simp [hf]
section
variable {P : Program} {W : World} {n : Nat} {D : List Deferred} {L : Tm} {M : List Res} {R : List Fact} {o : Oper}
theorem Imp.boxOwn {α : Type} {enc : α → List Value} {sz : Nat} {T : TypeId} {xs : List α} {b : Nat} {M' : List Res} {X : Act → World → Prop} [hd : HasOwn (.slice (some ⟨b, 0, none⟩) xs.length xs.length) M T sz enc xs M']
    (h : Imp W n D L (bx b T (xs.flatMap enc) :: M') R X) : Imp W n D L M R X := by
  intro a w h1 h2 h3
  refine h a w h1 h2 ?_
  have h4 : St W (ownL (.slice (some ⟨b, 0, none⟩) xs.length xs.length) T sz enc xs :: M') R w := h3.perm hd.del.perm
  obtain ⟨s, ⟨s1, s2, rfl, hs1, hM⟩, hO, hR⟩ := h4.mem
  refine ⟨h4.os, h4.tape, h4.output, s1 ++ s2, ⟨s1, s2, rfl, ?_, hM⟩, hO, hR⟩
  obtain ⟨hl, ⟨e, _⟩ | ⟨b', cap, C, e, _, _, hC, ht, rfl⟩⟩ := hs1
  · cases e
  · simp only [Value.slice.injEq, Option.some.injEq, Addr.mk.injEq, true_and, and_true] at e
    obtain ⟨e1, e2⟩ := e
    have ec : cap = xs.length := e2.symm
    subst ec; subst e1
    have h6 : C.toList = xs.flatMap enc := by
      rw [← ht, List.take_of_length_le]
      rw [Array.length_toList, hC]; exact Nat.le_refl _
    show [(b, Obj.cells C T (0, 0))] = [(b, Obj.cells (xs.flatMap enc).toArray T (0, 0))]
    rw [← h6]
end
end Go.G

namespace Go.G
structure FnY (P : Program) (W : World) (k : FuncId) (args : List Value) (J0 J1 Jx : Res) (R0 Rf : List Fact) : Prop where
  enter : ∀ (ag : Array Value) (w : World), (callFunc k ag).run P w = .ok (.enter k ag) w
  calls : ∀ Mf Ri w, St W (J0 :: Mf) ((R0 ++ Ri) ++ Rf) w → Calls P k args.toArray w fun e w' => (e = .returned (.bool true) ∧ St W (J1 :: Mf) ((R0 ++ Ri) ++ Rf) w') ∨ (e = .returned (.bool false) ∧ St W (Jx :: Mf) ((R0 ++ Ri) ++ Rf) w')
def RetY (W : World) (Mf : List Res) (R : List Fact) (J1 Jx : Res) (e : Ending) (w' : World) : Prop := (e = .returned (.bool true) ∧ St W (J1 :: Mf) R w') ∨ (e = .returned (.bool false) ∧ St W (Jx :: Mf) R w')
theorem FnY.intro {P : Program} {W : World} {n : Nat} {k : FuncId} {args : List Value} {J0 J1 Jx : Res} {R0 Rf : List Fact} {fn : Func} {c : Code} (he : ∀ (ag : Array Value) (w : World), (callFunc k ag).run P w = .ok (.enter k ag) w)
    (hf : P.funcs[k]? = some fn) (hb : fn.body = some c) (hn : fn.ntmps = n) (ha : Nat.ble args.length n = true)
    (h : ∀ Mf Ri, Imp W n [] (argsL args 0) (J0 :: Mf) ((R0 ++ Ri) ++ Rf) (c.wp P (bodyPost P fn (RetY W Mf ((R0 ++ Ri) ++ Rf) J1 Jx)))) : FnY P W k args J0 J1 Jx R0 Rf := by
  refine ⟨he, fun M Ri w hw => calls_of_wp hf hb ?_⟩
  rw [hn]
  exact h M Ri _ w (FSat.entry (Nat.le_of_ble_eq_true ha)) rfl hw
section
variable {P : Program} {W : World} {n : Nat} {D : List Deferred} {L : Tm} {M : List Res} {R : List Fact} {Q : Exit → Act → World → Prop} {o : Oper}
end
end Go.G

namespace Go.G
end Go.G

namespace Go.G
section
variable {P : Program} {W : World} {n : Nat} {D : List Deferred} {L : Tm} {M : List Res} {R : List Fact} {Q : Exit → Act → World → Prop} {o : Oper}
end
end Go.G

namespace Go.G
variable {P : Program} {W : World} {n : Nat} {D : List Deferred} {L : Tm} {M : List Res} {R : List Fact} {Q : Exit → Act → World → Prop} {o : Oper}
end Go.G

namespace Go.Proofs.YtpndeonmmcaikaaGreat.DrW
open Go.G Foot4 Drain7
set_option maxRecDepth 1000000
attribute [local irreducible] G.ParO G.Fin
set_option maxHeartbeats 4000000 in
theorem in01_v (n a b : Int) : FnV Tryz.prog 27 [i64 n, i64 a, i64 b] [] (.bool (decide (a ≤ n ∧ n ≤ b))) := by
 refine FnV.intro Tryz.call27 Tryz.func27 rfl Tryz.ntmps27 rfl ?_; intro W M Rf; refine r_seq (r_region ?_); refine q_as rfl rfl rfl rfl rfl ?_; refine o_nil (r_then (r_seq (r_region ?_))); refine q_mv rfl rfl rfl rfl rfl ?_; refine q_mv rfl rfl rfl rfl rfl ?_; refine o_test rfl rfl rfl (v_leq rfl rfl rfl) (fun h9 => ?_) (fun h9 => ?_)
 all_goals
  refine q_mv rfl rfl rfl rfl rfl ?_
  first | refine o_gn rfl rfl rfl rfl ?_ | refine o_g _ rfl rfl rfl rfl (v_move rfl rfl) ?_
  first | refine o_gn rfl rfl rfl rfl ?_ | refine o_g _ rfl rfl rfl rfl (v_move rfl rfl) ?_
  first | refine o_gn rfl rfl rfl rfl ?_ | refine o_gtest rfl rfl rfl rfl (v_leq rfl rfl rfl) (fun h13 => ?_) (fun h13 => ?_)
  all_goals
   first | refine o_q _ rfl rfl rfl (v_pick_t rfl rfl rfl) ?_ | refine o_q _ rfl rfl rfl (v_pick_f rfl rfl rfl) ?_
   refine q_as rfl rfl rfl rfl rfl ?_; refine o_nil (r_then ?_); refine r_ret ?_
   first | exact r_retv2 (Rd.tmp rfl rfl) (congrArg Value.bool (decide_eq_true (by omega)).symm) SelMC.sel SubRC.sub | exact r_retv2 (Rd.tmp rfl rfl) (congrArg Value.bool (decide_eq_false (by omega)).symm) SelMC.sel SubRC.sub
set_option maxHeartbeats 4000000 in
theorem in07_v (n a b : Int) : FnV Tryz.prog 31 [i64 n, i64 a, i64 b] [] (.bool (decide (a ≤ n ∧ n ≤ b))) := by
 refine FnV.intro Tryz.call31 Tryz.func31 rfl Tryz.ntmps31 rfl ?_; intro W M Rf; refine r_seq (r_region ?_); refine q_as rfl rfl rfl rfl rfl ?_; refine o_nil (r_then (r_seq (r_region ?_))); refine q_mv rfl rfl rfl rfl rfl ?_; refine q_mv rfl rfl rfl rfl rfl ?_; refine o_test rfl rfl rfl (v_leq rfl rfl rfl) (fun h9 => ?_) (fun h9 => ?_)
 all_goals
  refine q_mv rfl rfl rfl rfl rfl ?_
  first | refine o_gn rfl rfl rfl rfl ?_ | refine o_g _ rfl rfl rfl rfl (v_move rfl rfl) ?_
  first | refine o_gn rfl rfl rfl rfl ?_ | refine o_g _ rfl rfl rfl rfl (v_move rfl rfl) ?_
  first | refine o_gn rfl rfl rfl rfl ?_ | refine o_gtest rfl rfl rfl rfl (v_leq rfl rfl rfl) (fun h13 => ?_) (fun h13 => ?_)
  all_goals
   first | refine o_q _ rfl rfl rfl (v_pick_t rfl rfl rfl) ?_ | refine o_q _ rfl rfl rfl (v_pick_f rfl rfl rfl) ?_
   refine q_as rfl rfl rfl rfl rfl ?_; refine o_nil (r_then ?_); refine r_ret ?_
   first | exact r_retv2 (Rd.tmp rfl rfl) (congrArg Value.bool (decide_eq_true (by omega)).symm) SelMC.sel SubRC.sub | exact r_retv2 (Rd.tmp rfl rfl) (congrArg Value.bool (decide_eq_false (by omega)).symm) SelMC.sel SubRC.sub
set_option maxHeartbeats 4000000 in
theorem withinK_v (n a b : Int) : FnV Tryz.prog 95 [i64 n, i64 a, i64 b] [] (.bool (decide (a ≤ n ∧ n ≤ b))) := by
 refine FnV.intro Tryz.call95 Tryz.func95 rfl Tryz.ntmps95 rfl ?_; intro W M Rf; refine r_seq (r_region ?_); refine q_as rfl rfl rfl rfl rfl ?_; refine o_nil (r_then (r_seq (r_region ?_))); refine q_mv rfl rfl rfl rfl rfl ?_; refine q_mv rfl rfl rfl rfl rfl ?_; refine o_test rfl rfl rfl (v_leq rfl rfl rfl) (fun h9 => ?_) (fun h9 => ?_)
 all_goals
  refine q_mv rfl rfl rfl rfl rfl ?_
  first | refine o_gn rfl rfl rfl rfl ?_ | refine o_g _ rfl rfl rfl rfl (v_move rfl rfl) ?_
  first | refine o_gn rfl rfl rfl rfl ?_ | refine o_g _ rfl rfl rfl rfl (v_move rfl rfl) ?_
  first | refine o_gn rfl rfl rfl rfl ?_ | refine o_gtest rfl rfl rfl rfl (v_leq rfl rfl rfl) (fun h13 => ?_) (fun h13 => ?_)
  all_goals
   first | refine o_q _ rfl rfl rfl (v_pick_t rfl rfl rfl) ?_ | refine o_q _ rfl rfl rfl (v_pick_f rfl rfl rfl) ?_
   refine q_as rfl rfl rfl rfl rfl ?_; refine o_nil (r_then ?_); refine r_ret ?_
   first | exact r_retv2 (Rd.tmp rfl rfl) (congrArg Value.bool (decide_eq_true (by omega)).symm) SelMC.sel SubRC.sub | exact r_retv2 (Rd.tmp rfl rfl) (congrArg Value.bool (decide_eq_false (by omega)).symm) SelMC.sel SubRC.sub
set_option maxHeartbeats 4000000 in
theorem withinD_v (n a b : Int) : FnV Tryz.prog 103 [i64 n, i64 a, i64 b] [] (.bool (decide (a ≤ n ∧ n ≤ b))) := by
 refine FnV.intro Tryz.call103 Tryz.func103 rfl Tryz.ntmps103 rfl ?_; intro W M Rf; refine r_seq (r_region ?_); refine q_as rfl rfl rfl rfl rfl ?_; refine o_nil (r_then (r_seq (r_region ?_))); refine q_mv rfl rfl rfl rfl rfl ?_; refine q_mv rfl rfl rfl rfl rfl ?_; refine o_test rfl rfl rfl (v_leq rfl rfl rfl) (fun h9 => ?_) (fun h9 => ?_)
 all_goals
  refine q_mv rfl rfl rfl rfl rfl ?_
  first | refine o_gn rfl rfl rfl rfl ?_ | refine o_g _ rfl rfl rfl rfl (v_move rfl rfl) ?_
  first | refine o_gn rfl rfl rfl rfl ?_ | refine o_g _ rfl rfl rfl rfl (v_move rfl rfl) ?_
  first | refine o_gn rfl rfl rfl rfl ?_ | refine o_gtest rfl rfl rfl rfl (v_leq rfl rfl rfl) (fun h13 => ?_) (fun h13 => ?_)
  all_goals
   first | refine o_q _ rfl rfl rfl (v_pick_t rfl rfl rfl) ?_ | refine o_q _ rfl rfl rfl (v_pick_f rfl rfl rfl) ?_
   refine q_as rfl rfl rfl rfl rfl ?_; refine o_nil (r_then ?_); refine r_ret ?_
   first | exact r_retv2 (Rd.tmp rfl rfl) (congrArg Value.bool (decide_eq_true (by omega)).symm) SelMC.sel SubRC.sub | exact r_retv2 (Rd.tmp rfl rfl) (congrArg Value.bool (decide_eq_false (by omega)).symm) SelMC.sel SubRC.sub
set_option maxHeartbeats 4000000 in
theorem span01_v (lo hi a b : Int) (h0 : 0 ≤ a) (h1 : b ≤ 1000) : FnV Tryz.prog 28 [.agg #[i64 lo, i64 hi], i64 a, i64 b] [] (.bool (decide (SpanK lo hi a b))) := by
 refine FnV.intro Tryz.call28 Tryz.func28 rfl Tryz.ntmps28 rfl ?_; intro W M Rf; refine r_seq (r_region ?_); refine o_boxA rfl rfl rfl rfl rfl (fun b3 => ?_); refine q_as rfl rfl rfl rfl rfl ?_; refine o_nil (r_then (r_seq (r_region ?_))); refine q_mv rfl rfl rfl rfl rfl ?_; refine o_q _ rfl rfl rfl (v_fieldAddr rfl Tryz.underlying43 inf3 rfl rfl rfl rfl) ?_; refine o_q _ rfl rfl rfl (v_ld1 rfl Tryz.underlying3 rfl rfl rfl) ?_; refine o_test rfl rfl rfl (v_leq rfl rfl rfl) (fun h10 => ?_) (fun h10 => ?_)
 all_goals
  refine q_mv rfl rfl rfl rfl rfl ?_
  first | refine o_gn rfl rfl rfl rfl ?_ | refine o_g _ rfl rfl rfl rfl (v_fieldAddr rfl Tryz.underlying43 inf3 rfl rfl rfl rfl) ?_
  first | refine o_gn rfl rfl rfl rfl ?_ | refine o_g _ rfl rfl rfl rfl (v_ld1 rfl Tryz.underlying3 rfl rfl rfl) ?_
  first | refine o_gn rfl rfl rfl rfl ?_ | refine o_g _ rfl rfl rfl rfl (v_fieldAddr rfl Tryz.underlying43 inf3 rfl rfl rfl rfl) ?_
  first | refine o_gn rfl rfl rfl rfl ?_ | refine o_g _ rfl rfl rfl rfl (v_ld1 rfl Tryz.underlying3 rfl rfl rfl) ?_
  first | refine o_gn rfl rfl rfl rfl ?_ | refine o_gtest rfl rfl rfl rfl (v_leq rfl rfl rfl) (fun h16 => ?_) (fun h16 => ?_)
  all_goals
   first | refine o_q _ rfl rfl rfl (v_pick_t rfl rfl rfl) ?_ | refine o_q _ rfl rfl rfl (v_pick_f rfl rfl rfl) ?_
   refine q_mv rfl rfl rfl rfl rfl ?_
   first | refine o_gn rfl rfl rfl rfl ?_ | refine o_g _ rfl rfl rfl rfl (v_fieldAddr rfl Tryz.underlying43 inf3 rfl rfl rfl rfl) ?_
   first | refine o_gn rfl rfl rfl rfl ?_ | refine o_g _ rfl rfl rfl rfl (v_ld1 rfl Tryz.underlying3 rfl rfl rfl) ?_
   first | refine o_gn rfl rfl rfl rfl ?_ | refine o_g _ rfl rfl rfl rfl (v_move rfl rfl) ?_
   first | refine o_gn rfl rfl rfl rfl ?_ | refine o_gtest rfl rfl rfl rfl (v_leq rfl rfl rfl) (fun h22 => ?_) (fun h22 => ?_)
   all_goals
    first | refine o_q _ rfl rfl rfl (v_pick_t rfl rfl rfl) ?_ | refine o_q _ rfl rfl rfl (v_pick_f rfl rfl rfl) ?_
    refine q_mv rfl rfl rfl rfl rfl ?_
    first | refine o_gn rfl rfl rfl rfl ?_ | refine o_g _ rfl rfl rfl rfl (v_fieldAddr rfl Tryz.underlying43 inf3 rfl rfl rfl rfl) ?_
    first | refine o_gn rfl rfl rfl rfl ?_ | refine o_g _ rfl rfl rfl rfl (v_ld1 rfl Tryz.underlying3 rfl rfl rfl) ?_
    first | refine o_gn rfl rfl rfl rfl ?_ | refine o_g _ rfl rfl rfl rfl (v_fieldAddr rfl Tryz.underlying43 inf3 rfl rfl rfl rfl) ?_
    first | refine o_gn rfl rfl rfl rfl ?_ | refine o_g _ rfl rfl rfl rfl (v_ld1 rfl Tryz.underlying3 rfl rfl rfl) ?_
    first | refine o_gn rfl rfl rfl rfl ?_ | refine o_g _ rfl rfl rfl rfl (v_sub rfl rfl rfl (by omega)) ?_
    first | refine o_gn rfl rfl rfl rfl ?_ | refine o_gtest rfl rfl rfl rfl (v_leq rfl rfl rfl) (fun h30 => ?_) (fun h30 => ?_)
    all_goals
     first | refine o_q _ rfl rfl rfl (v_pick_t rfl rfl rfl) ?_ | refine o_q _ rfl rfl rfl (v_pick_f rfl rfl rfl) ?_
     refine q_as rfl rfl rfl rfl rfl ?_; refine o_nil (r_then ?_); refine r_ret ?_
     first | exact r_retv2 (Rd.tmp rfl rfl) (congrArg Value.bool (decide_eq_true ⟨by omega, by omega, by omega, by omega⟩).symm) SelMC.sel SubRC.sub | exact r_retv2 (Rd.tmp rfl rfl) (congrArg Value.bool (decide_eq_false (fun h => by obtain ⟨h1, h2, h3, h4⟩ := h; omega)).symm) SelMC.sel SubRC.sub
set_option maxHeartbeats 4000000 in
theorem openK1_v (lo hi a b : Int) (h0 : 0 ≤ a) (h1 : b ≤ 1000) : FnV Tryz.prog 96 [.agg #[i64 lo, i64 hi], i64 a, i64 b] [] (.bool (decide (SpanK lo hi a b))) := by
 refine FnV.intro Tryz.call96 Tryz.func96 rfl Tryz.ntmps96 rfl ?_; intro W M Rf; refine r_seq (r_region ?_); refine o_boxA rfl rfl rfl rfl rfl (fun b3 => ?_); refine q_as rfl rfl rfl rfl rfl ?_; refine o_nil (r_then (r_seq (r_region ?_))); refine q_mv rfl rfl rfl rfl rfl ?_; refine o_q _ rfl rfl rfl (v_fieldAddr rfl Tryz.underlying43 inf3 rfl rfl rfl rfl) ?_; refine o_q _ rfl rfl rfl (v_ld1 rfl Tryz.underlying3 rfl rfl rfl) ?_; refine o_test rfl rfl rfl (v_leq rfl rfl rfl) (fun h10 => ?_) (fun h10 => ?_)
 all_goals
  refine q_mv rfl rfl rfl rfl rfl ?_
  first | refine o_gn rfl rfl rfl rfl ?_ | refine o_g _ rfl rfl rfl rfl (v_fieldAddr rfl Tryz.underlying43 inf3 rfl rfl rfl rfl) ?_
  first | refine o_gn rfl rfl rfl rfl ?_ | refine o_g _ rfl rfl rfl rfl (v_ld1 rfl Tryz.underlying3 rfl rfl rfl) ?_
  first | refine o_gn rfl rfl rfl rfl ?_ | refine o_g _ rfl rfl rfl rfl (v_fieldAddr rfl Tryz.underlying43 inf3 rfl rfl rfl rfl) ?_
  first | refine o_gn rfl rfl rfl rfl ?_ | refine o_g _ rfl rfl rfl rfl (v_ld1 rfl Tryz.underlying3 rfl rfl rfl) ?_
  first | refine o_gn rfl rfl rfl rfl ?_ | refine o_gtest rfl rfl rfl rfl (v_leq rfl rfl rfl) (fun h16 => ?_) (fun h16 => ?_)
  all_goals
   first | refine o_q _ rfl rfl rfl (v_pick_t rfl rfl rfl) ?_ | refine o_q _ rfl rfl rfl (v_pick_f rfl rfl rfl) ?_
   refine q_mv rfl rfl rfl rfl rfl ?_
   first | refine o_gn rfl rfl rfl rfl ?_ | refine o_g _ rfl rfl rfl rfl (v_fieldAddr rfl Tryz.underlying43 inf3 rfl rfl rfl rfl) ?_
   first | refine o_gn rfl rfl rfl rfl ?_ | refine o_g _ rfl rfl rfl rfl (v_ld1 rfl Tryz.underlying3 rfl rfl rfl) ?_
   first | refine o_gn rfl rfl rfl rfl ?_ | refine o_g _ rfl rfl rfl rfl (v_move rfl rfl) ?_
   first | refine o_gn rfl rfl rfl rfl ?_ | refine o_gtest rfl rfl rfl rfl (v_leq rfl rfl rfl) (fun h22 => ?_) (fun h22 => ?_)
   all_goals
    first | refine o_q _ rfl rfl rfl (v_pick_t rfl rfl rfl) ?_ | refine o_q _ rfl rfl rfl (v_pick_f rfl rfl rfl) ?_
    refine q_mv rfl rfl rfl rfl rfl ?_
    first | refine o_gn rfl rfl rfl rfl ?_ | refine o_g _ rfl rfl rfl rfl (v_fieldAddr rfl Tryz.underlying43 inf3 rfl rfl rfl rfl) ?_
    first | refine o_gn rfl rfl rfl rfl ?_ | refine o_g _ rfl rfl rfl rfl (v_ld1 rfl Tryz.underlying3 rfl rfl rfl) ?_
    first | refine o_gn rfl rfl rfl rfl ?_ | refine o_g _ rfl rfl rfl rfl (v_fieldAddr rfl Tryz.underlying43 inf3 rfl rfl rfl rfl) ?_
    first | refine o_gn rfl rfl rfl rfl ?_ | refine o_g _ rfl rfl rfl rfl (v_ld1 rfl Tryz.underlying3 rfl rfl rfl) ?_
    first | refine o_gn rfl rfl rfl rfl ?_ | refine o_g _ rfl rfl rfl rfl (v_sub rfl rfl rfl (by omega)) ?_
    first | refine o_gn rfl rfl rfl rfl ?_ | refine o_gtest rfl rfl rfl rfl (v_leq rfl rfl rfl) (fun h30 => ?_) (fun h30 => ?_)
    all_goals
     first | refine o_q _ rfl rfl rfl (v_pick_t rfl rfl rfl) ?_ | refine o_q _ rfl rfl rfl (v_pick_f rfl rfl rfl) ?_
     refine q_as rfl rfl rfl rfl rfl ?_; refine o_nil (r_then ?_); refine r_ret ?_
     first | exact r_retv2 (Rd.tmp rfl rfl) (congrArg Value.bool (decide_eq_true ⟨by omega, by omega, by omega, by omega⟩).symm) SelMC.sel SubRC.sub | exact r_retv2 (Rd.tmp rfl rfl) (congrArg Value.bool (decide_eq_false (fun h => by obtain ⟨h1, h2, h3, h4⟩ := h; omega)).symm) SelMC.sel SubRC.sub
set_option maxHeartbeats 4000000 in
theorem span07_v (lo hi b : Int) (h1 : b ≤ 1000) : FnV Tryz.prog 32 [.agg #[i64 lo, i64 hi], i64 b] [] (.bool (decide (SpanD lo hi b))) := by
 refine FnV.intro Tryz.call32 Tryz.func32 rfl Tryz.ntmps32 rfl ?_; intro W M Rf; refine r_seq (r_region ?_); refine o_boxA rfl rfl rfl rfl rfl (fun b2 => ?_); refine q_as rfl rfl rfl rfl rfl ?_; refine o_nil (r_then (r_seq (r_region ?_))); refine o_q _ rfl rfl rfl (v_fieldAddr rfl Tryz.underlying43 inf3 rfl rfl rfl rfl) ?_; refine o_q _ rfl rfl rfl (v_ld1 rfl Tryz.underlying3 rfl rfl rfl) ?_; refine o_test rfl rfl rfl (v_leq rfl rfl rfl) (fun h7 => ?_) (fun h7 => ?_)
 all_goals
  refine q_mv rfl rfl rfl rfl rfl ?_
  first | refine o_gn rfl rfl rfl rfl ?_ | refine o_g _ rfl rfl rfl rfl (v_fieldAddr rfl Tryz.underlying43 inf3 rfl rfl rfl rfl) ?_
  first | refine o_gn rfl rfl rfl rfl ?_ | refine o_g _ rfl rfl rfl rfl (v_ld1 rfl Tryz.underlying3 rfl rfl rfl) ?_
  first | refine o_gn rfl rfl rfl rfl ?_ | refine o_g _ rfl rfl rfl rfl (v_fieldAddr rfl Tryz.underlying43 inf3 rfl rfl rfl rfl) ?_
  first | refine o_gn rfl rfl rfl rfl ?_ | refine o_g _ rfl rfl rfl rfl (v_ld1 rfl Tryz.underlying3 rfl rfl rfl) ?_
  first | refine o_gn rfl rfl rfl rfl ?_ | refine o_gtest rfl rfl rfl rfl (v_leq rfl rfl rfl) (fun h13 => ?_) (fun h13 => ?_)
  all_goals
   first | refine o_q _ rfl rfl rfl (v_pick_t rfl rfl rfl) ?_ | refine o_q _ rfl rfl rfl (v_pick_f rfl rfl rfl) ?_
   refine q_mv rfl rfl rfl rfl rfl ?_
   first | refine o_gn rfl rfl rfl rfl ?_ | refine o_g _ rfl rfl rfl rfl (v_fieldAddr rfl Tryz.underlying43 inf3 rfl rfl rfl rfl) ?_
   first | refine o_gn rfl rfl rfl rfl ?_ | refine o_g _ rfl rfl rfl rfl (v_ld1 rfl Tryz.underlying3 rfl rfl rfl) ?_
   first | refine o_gn rfl rfl rfl rfl ?_ | refine o_g _ rfl rfl rfl rfl (v_move rfl rfl) ?_
   first | refine o_gn rfl rfl rfl rfl ?_ | refine o_gtest rfl rfl rfl rfl (v_leq rfl rfl rfl) (fun h19 => ?_) (fun h19 => ?_)
   all_goals
    first | refine o_q _ rfl rfl rfl (v_pick_t rfl rfl rfl) ?_ | refine o_q _ rfl rfl rfl (v_pick_f rfl rfl rfl) ?_
    refine q_mv rfl rfl rfl rfl rfl ?_
    first | refine o_gn rfl rfl rfl rfl ?_ | refine o_g _ rfl rfl rfl rfl (v_fieldAddr rfl Tryz.underlying43 inf3 rfl rfl rfl rfl) ?_
    first | refine o_gn rfl rfl rfl rfl ?_ | refine o_g _ rfl rfl rfl rfl (v_ld1 rfl Tryz.underlying3 rfl rfl rfl) ?_
    first | refine o_gn rfl rfl rfl rfl ?_ | refine o_g _ rfl rfl rfl rfl (v_fieldAddr rfl Tryz.underlying43 inf3 rfl rfl rfl rfl) ?_
    first | refine o_gn rfl rfl rfl rfl ?_ | refine o_g _ rfl rfl rfl rfl (v_ld1 rfl Tryz.underlying3 rfl rfl rfl) ?_
    first | refine o_gn rfl rfl rfl rfl ?_ | refine o_g _ rfl rfl rfl rfl (v_sub rfl rfl rfl (by omega)) ?_
    first | refine o_gn rfl rfl rfl rfl ?_ | refine o_gtest rfl rfl rfl rfl (v_leq rfl rfl rfl) (fun h27 => ?_) (fun h27 => ?_)
    all_goals
     first | refine o_q _ rfl rfl rfl (v_pick_t rfl rfl rfl) ?_ | refine o_q _ rfl rfl rfl (v_pick_f rfl rfl rfl) ?_
     refine q_as rfl rfl rfl rfl rfl ?_; refine o_nil (r_then ?_); refine r_ret ?_
     first | exact r_retv2 (Rd.tmp rfl rfl) (congrArg Value.bool (decide_eq_true ⟨by omega, by omega, by omega, by omega⟩).symm) SelMC.sel SubRC.sub | exact r_retv2 (Rd.tmp rfl rfl) (congrArg Value.bool (decide_eq_false (fun h => by obtain ⟨h1, h2, h3, h4⟩ := h; omega)).symm) SelMC.sel SubRC.sub
variable (B : Bk) (lo mo : Option Addr) (lc mc : Nat)
set_option maxHeartbeats 4000000 in
theorem perch01_v (h : 1 ≤ B.perches ∧ B.perches ≤ 10) (n : Int) : FnV Tryz.prog 29 [valK B lo mo lc mc, i64 n] [] (.bool (decide (0 ≤ n ∧ n ≤ B.perches - 1))) := by
 refine FnV.intro Tryz.call29 Tryz.func29 rfl Tryz.ntmps29 rfl ?_; intro W M Rf; refine r_seq (r_region ?_); refine o_boxA rfl rfl rfl rfl rfl (fun b2 => ?_); refine q_as rfl rfl rfl rfl rfl ?_; refine o_nil (r_then (r_seq (r_region ?_))); refine q_mv rfl rfl rfl rfl rfl ?_; refine o_q _ rfl rfl rfl (v_fieldAddr rfl Tryz.underlying25 inf3 rfl rfl rfl rfl) ?_; refine o_q _ rfl rfl rfl (v_ld1 rfl Tryz.underlying3 rfl rfl rfl) ?_; refine o_q _ rfl rfl rfl (v_sub rfl rfl rfl (by omega)) ?_; refine o_q _ rfl rfl rfl (OpQ.fn (in01_v _ _ _) rfl rfl SubRC.sub) ?_; refine q_as rfl rfl rfl rfl rfl ?_; refine o_nil (r_then ?_); refine r_ret ?_; exact r_retv2 (Rd.tmp rfl rfl) rfl SelMC.sel SubRC.sub
set_option maxHeartbeats 4000000 in
theorem holder01_v (n : Int) : FnV Tryz.prog 30 [valK B lo mo lc mc, i64 n] [] (.bool (decide (0 ≤ n ∧ n ≤ B.holders))) := by
 refine FnV.intro Tryz.call30 Tryz.func30 rfl Tryz.ntmps30 rfl ?_; intro W M Rf; refine r_seq (r_region ?_); refine o_boxA rfl rfl rfl rfl rfl (fun b2 => ?_); refine q_as rfl rfl rfl rfl rfl ?_; refine o_nil (r_then (r_seq (r_region ?_))); refine q_mv rfl rfl rfl rfl rfl ?_; refine o_q _ rfl rfl rfl (v_fieldAddr rfl Tryz.underlying25 inf3 rfl rfl rfl rfl) ?_; refine o_q _ rfl rfl rfl (v_ld1 rfl Tryz.underlying3 rfl rfl rfl) ?_; refine o_q _ rfl rfl rfl (OpQ.fn (in01_v _ _ _) rfl rfl SubRC.sub) ?_; refine q_as rfl rfl rfl rfl rfl ?_; refine o_nil (r_then ?_); refine r_ret ?_; exact r_retv2 (Rd.tmp rfl rfl) rfl SelMC.sel SubRC.sub
variable (D : Dr) (bo wo ro so : Option Addr) (bc wc rc sc : Nat)
set_option maxHeartbeats 4000000 in
theorem bank07_v (hl : D.banks.length ≤ 40) (n : Int) : FnV Tryz.prog 91 [valD D bo wo ro so bc wc rc sc, i64 n] [] (.bool (decide (0 ≤ n ∧ n ≤ (D.banks.length : Int) - 1))) := by
 refine FnV.intro Tryz.call91 Tryz.func91 rfl Tryz.ntmps91 rfl ?_; intro W M Rf; refine r_seq (r_region ?_); refine o_boxA rfl rfl rfl rfl rfl (fun b2 => ?_); refine q_as rfl rfl rfl rfl rfl ?_; refine o_nil (r_then (r_seq (r_region ?_))); refine q_mv rfl rfl rfl rfl rfl ?_; refine o_q _ rfl rfl rfl (v_fieldAddr rfl Tryz.underlying30 inf26 rfl rfl rfl rfl) ?_; refine o_q _ rfl rfl rfl (v_ld1 rfl Tryz.underlying26 rfl rfl rfl) ?_; refine o_q _ rfl rfl rfl (v_len rfl rfl Tryz.underlying26 rfl) ?_; refine o_q _ rfl rfl rfl (v_sub rfl rfl rfl (by omega)) ?_; refine o_q _ rfl rfl rfl (OpQ.fn (in07_v _ _ _) rfl rfl SubRC.sub) ?_; refine q_as rfl rfl rfl rfl rfl ?_; refine o_nil (r_then ?_); refine r_ret ?_; exact r_retv2 (Rd.tmp rfl rfl) rfl SelMC.sel SubRC.sub
set_option maxHeartbeats 4000000 in
theorem two07_v (hl : D.banks.length ≤ 40) (a b : Int) : FnV Tryz.prog 33 [valD D bo wo ro so bc wc rc sc, i64 a, i64 b] [] (.bool (decide (TwoD D a b))) := by
 refine FnV.intro Tryz.call33 Tryz.func33 rfl Tryz.ntmps33 rfl ?_; intro W M Rf; refine r_seq (r_region ?_); refine o_boxA rfl rfl rfl rfl rfl (fun b3 => ?_); refine q_as rfl rfl rfl rfl rfl ?_; refine o_nil (r_then (r_seq (r_region ?_))); refine o_q _ rfl rfl rfl (v_ldW rfl Tryz.underlying30 rfl inf30 rfl rfl) ?_; refine q_mv rfl rfl rfl rfl rfl ?_; refine o_test rfl rfl rfl (OpQ.fn (bank07_v D bo wo ro so bc wc rc sc hl _) rfl rfl SubRC.sub) (fun h9 => ?_) (fun h9 => ?_)
 all_goals
  refine q_mv rfl rfl rfl rfl rfl ?_
  first | refine o_gn rfl rfl rfl rfl ?_ | refine o_g _ rfl rfl rfl rfl (v_ldW rfl Tryz.underlying30 rfl inf30 rfl rfl) ?_
  first | refine o_gn rfl rfl rfl rfl ?_ | refine o_g _ rfl rfl rfl rfl (v_move rfl rfl) ?_
  first | refine o_gn rfl rfl rfl rfl ?_ | refine o_gtest rfl rfl rfl rfl (OpQ.fn (bank07_v D bo wo ro so bc wc rc sc hl _) rfl rfl SubRC.sub) (fun h13 => ?_) (fun h13 => ?_)
  all_goals
   first | refine o_q _ rfl rfl rfl (v_pick_t rfl rfl rfl) ?_ | refine o_q _ rfl rfl rfl (v_pick_f rfl rfl rfl) ?_
   refine q_mv rfl rfl rfl rfl rfl ?_
   first | refine o_gn rfl rfl rfl rfl ?_ | refine o_g _ rfl rfl rfl rfl (v_move rfl rfl) ?_
   first | refine o_gn rfl rfl rfl rfl ?_ | refine o_g _ rfl rfl rfl rfl (v_move rfl rfl) ?_
   first | refine o_gn rfl rfl rfl rfl ?_ | refine o_gtest rfl rfl rfl rfl (v_neq rfl rfl rfl) (fun h18 => ?_) (fun h18 => ?_)
   all_goals
    first | refine o_q _ rfl rfl rfl (v_pick_t rfl rfl rfl) ?_ | refine o_q _ rfl rfl rfl (v_pick_f rfl rfl rfl) ?_
    refine q_as rfl rfl rfl rfl rfl ?_; refine o_nil (r_then ?_); refine r_ret ?_
    first | exact r_retv2 (Rd.tmp rfl rfl) (congrArg Value.bool (decide_eq_true ⟨by omega, by omega, by omega⟩).symm) SelMC.sel SubRC.sub | exact r_retv2 (Rd.tmp rfl rfl) (congrArg Value.bool (decide_eq_false (fun h => by obtain ⟨h1, h2, h3⟩ := h; omega)).symm) SelMC.sel SubRC.sub
end Go.Proofs.YtpndeonmmcaikaaGreat.DrW

namespace Go.Proofs.YtpndeonmmcaikaaGreat.DrW
open Go.G Foot4 Drain7
set_option maxRecDepth 1000000
attribute [local irreducible] G.ParO G.Fin
variable (B : Bk) (lo mo : Option Addr) (lc mc : Nat)
set_option maxHeartbeats 4000000 in
theorem BankK_v (hl1 : B.leases.length ≤ 40) (hl2 : B.marks.length ≤ 40) : FnV Tryz.prog 5 [valK B lo mo lc mc] [rowD lo 5 encLe B.leases, rowD mo 2 encMk B.marks] (.bool (decide (GoodK B))) := by
 refine FnV.intro Tryz.call5 Tryz.func5 rfl Tryz.ntmps5 rfl ?_; intro W M Rf; refine r_seq (r_region ?_); refine o_boxA rfl rfl rfl rfl rfl (fun b1 => ?_); refine q_as rfl rfl rfl rfl rfl ?_; refine o_nil (r_then (r_seq ?_)); refine r_seq (r_region ?_); refine o_q _ rfl rfl rfl (v_fieldAddr rfl Tryz.underlying25 inf3 rfl rfl rfl rfl) ?_; refine o_q _ rfl rfl rfl (v_ld1 rfl Tryz.underlying3 rfl rfl rfl) ?_; refine o_test rfl rfl rfl (OpQ.fn (in01_v _ _ _) rfl rfl SubRC.sub) (fun h8 => ?_) (fun h8 => ?_)
 all_goals
  refine o_q _ rfl rfl rfl (v_not rfl rfl) ?_; refine q_mv rfl rfl rfl rfl rfl ?_
  first | refine o_gn rfl rfl rfl rfl ?_ | refine o_g _ rfl rfl rfl rfl (v_fieldAddr rfl Tryz.underlying25 inf3 rfl rfl rfl rfl) ?_
  first | refine o_gn rfl rfl rfl rfl ?_ | refine o_g _ rfl rfl rfl rfl (v_ld1 rfl Tryz.underlying3 rfl rfl rfl) ?_
  first | refine o_gn rfl rfl rfl rfl ?_ | refine o_gtest rfl rfl rfl rfl (OpQ.fn (in01_v _ _ _) rfl rfl SubRC.sub) (fun h13 => ?_) (fun h13 => ?_)
  all_goals
   first | refine o_gn rfl rfl rfl rfl ?_ | refine o_g _ rfl rfl rfl rfl (v_not rfl rfl) ?_
   first | refine o_q _ rfl rfl rfl (v_pick_t rfl rfl rfl) ?_ | refine o_q _ rfl rfl rfl (v_pick_f rfl rfl rfl) ?_
   refine q_mv rfl rfl rfl rfl rfl ?_
   first | refine o_gn rfl rfl rfl rfl ?_ | refine o_g _ rfl rfl rfl rfl (v_fieldAddr rfl Tryz.underlying25 inf22 rfl rfl rfl rfl) ?_
   first | refine o_gn rfl rfl rfl rfl ?_ | refine o_g _ rfl rfl rfl rfl (v_ld1 rfl Tryz.underlying22 rfl rfl rfl) ?_
   first | refine o_gn rfl rfl rfl rfl ?_ | refine o_g _ rfl rfl rfl rfl (v_len rfl rfl Tryz.underlying22 rfl) ?_
   first | refine o_gn rfl rfl rfl rfl ?_ | refine o_gtest rfl rfl rfl rfl (v_gtr rfl rfl rfl) (fun h20 => ?_) (fun h20 => ?_)
   all_goals
    first | refine o_q _ rfl rfl rfl (v_pick_t rfl rfl rfl) ?_ | refine o_q _ rfl rfl rfl (v_pick_f rfl rfl rfl) ?_
    refine q_mv rfl rfl rfl rfl rfl ?_
    first | refine o_gn rfl rfl rfl rfl ?_ | refine o_g _ rfl rfl rfl rfl (v_fieldAddr rfl Tryz.underlying25 inf23 rfl rfl rfl rfl) ?_
    first | refine o_gn rfl rfl rfl rfl ?_ | refine o_g _ rfl rfl rfl rfl (v_ld1 rfl Tryz.underlying23 rfl rfl rfl) ?_
    first | refine o_gn rfl rfl rfl rfl ?_ | refine o_g _ rfl rfl rfl rfl (v_len rfl rfl Tryz.underlying23 rfl) ?_
    first | refine o_gn rfl rfl rfl rfl ?_ | refine o_gtest rfl rfl rfl rfl (v_gtr rfl rfl rfl) (fun h26 => ?_) (fun h26 => ?_)
    all_goals
     first | refine o_q _ rfl rfl rfl (v_pick_t rfl rfl rfl) ?_ | refine o_q _ rfl rfl rfl (v_pick_f rfl rfl rfl) ?_
     refine o_nil (r_then ?_); refine r_cond rfl (fun hc27 => ?_) (fun hc27 => ?_)
     ·
      first
      | (exfalso; revert hc27; decide)
      |
       skip
       refine r_seq (r_region ?_); refine q_as rfl rfl rfl rfl rfl ?_; refine o_nil (r_then ?_); refine r_ret ?_; (with_reducible refine r_then_ret ?_); exact r_retv2 (Rd.tmp rfl rfl) (congrArg Value.bool (decide_eq_false (fun g : GoodK B => by obtain ⟨g1, g2, g3, g4, g5, g6⟩ := g; first | omega | (have g9 := g5 k1 (by omega); obtain ⟨a1, a2, a3, a4⟩ := g9; first | omega | contradiction) | (have g9 := g6 k2 (by omega); unfold MarkOk at g9; omega))).symm) SelMC.sel SubRC.sub
     ·
      first
      | (exfalso; revert hc27; decide)
      |
       skip
       refine r_skip (r_then ?_); refine r_seq ?_; refine r_seq (r_region ?_); refine q_as rfl rfl rfl rfl rfl ?_; refine o_nil (r_then ?_); refine r_block ?_; refine r_loop (ι := Nat) (fun k1 => k1 ≤ B.leases.length ∧ ∀ j, j < k1 → LeaseOk B (B.leases.getD j default)) (fun k1 => [(1, pt b1 0), (3, i64 k1)]) (fun k1 => bx b1 25 (cellsK B lo mo lc mc) :: M) (fun k1 => [rowD lo 5 encLe B.leases, rowD mo 2 encMk B.marks] ++ Rf) (fun k1 => B.leases.length - k1) 0 ?_ ?_ ?_
       ·
        exact r_here (by repeat (first | exact FSub.nil | refine FSub.cons rfl ?_)) SelMC.sel SubRC.sub
       ·
        exact ⟨Nat.zero_le _, fun j hj => absurd hj (by omega)⟩
       ·
        rintro k1 hI0; refine r_seq ?_; refine r_seq (r_region ?_); refine q_mv rfl rfl rfl rfl rfl ?_; refine o_q _ rfl rfl rfl (v_fieldAddr rfl Tryz.underlying25 inf22 rfl rfl rfl rfl) ?_; refine o_q _ rfl rfl rfl (v_ld1 rfl Tryz.underlying22 rfl rfl rfl) ?_; refine o_q _ rfl rfl rfl (v_len rfl rfl Tryz.underlying22 rfl) ?_; refine o_q _ rfl rfl rfl (v_lss rfl rfl rfl) ?_; refine o_nil (r_then ?_); refine r_condd rfl (fun hc32 => ?_) (fun hc32 => ?_)
        ·
         refine r_skip (r_then ?_); refine r_seq (r_block ?_); refine r_seq (r_region ?_); refine o_q _ rfl rfl rfl (v_fieldAddr rfl Tryz.underlying25 inf22 rfl rfl rfl rfl) ?_; refine o_q _ rfl rfl rfl (v_ld1 rfl Tryz.underlying22 rfl rfl rfl) ?_; refine q_mv rfl rfl rfl rfl rfl ?_; refine o_q _ rfl rfl rfl (v_indexAddrSn rfl Tryz.underlying22 inf84 rfl rfl rfl (by omega) rfl) ?_; refine o_q _ rfl rfl rfl (v_loadEN rfl Tryz.underlying84 rfl inf84 rfl (by omega) rfl rfl rfl) ?_; refine o_alloc rfl inf84 rfl rfl rfl rfl rfl (fun b4 => ?_); refine o_st rfl inf84 rfl rfl rfl rfl rfl rfl rfl rfl ?_; refine o_nil (r_then (r_seq (r_region ?_))); refine o_q _ rfl rfl rfl (v_fieldAddr rfl Tryz.underlying84 inf3 rfl rfl rfl rfl) ?_; refine o_q _ rfl rfl rfl (v_ld1 rfl Tryz.underlying3 rfl rfl rfl) ?_; refine o_q _ rfl rfl rfl (v_fieldAddr rfl Tryz.underlying25 inf3 rfl rfl rfl rfl) ?_; refine o_q _ rfl rfl rfl (v_ld1 rfl Tryz.underlying3 rfl rfl rfl) ?_; refine o_q _ rfl rfl rfl (v_sub rfl rfl rfl (by omega)) ?_; refine o_test rfl rfl rfl (OpQ.fn (in01_v _ _ _) rfl rfl SubRC.sub) (fun h45 => ?_) (fun h45 => ?_)
         all_goals
          refine o_q _ rfl rfl rfl (v_not rfl rfl) ?_; refine q_mv rfl rfl rfl rfl rfl ?_
          first | refine o_gn rfl rfl rfl rfl ?_ | refine o_g _ rfl rfl rfl rfl (v_fieldAddr rfl Tryz.underlying84 inf43 rfl rfl rfl rfl) ?_
          first | refine o_gn rfl rfl rfl rfl ?_ | refine o_g _ rfl rfl rfl rfl (v_ldN rfl Tryz.underlying43 rfl inf43 rfl rfl rfl) ?_
          first | refine o_gn rfl rfl rfl rfl ?_ | refine o_g _ rfl rfl rfl rfl (v_fieldAddr rfl Tryz.underlying25 inf3 rfl rfl rfl rfl) ?_
          first | refine o_gn rfl rfl rfl rfl ?_ | refine o_g _ rfl rfl rfl rfl (v_ld1 rfl Tryz.underlying3 rfl rfl rfl) ?_
          first | refine o_gn rfl rfl rfl rfl ?_ | refine o_g _ rfl rfl rfl rfl (v_sub rfl rfl rfl (by omega)) ?_
          first | refine o_gn rfl rfl rfl rfl ?_ | refine o_gtest rfl rfl rfl rfl (OpQ.fn (span01_v _ _ _ _ (by omega) (by omega)) rfl rfl SubRC.sub) (fun h53 => ?_) (fun h53 => ?_)
          all_goals
           first | refine o_gn rfl rfl rfl rfl ?_ | refine o_g _ rfl rfl rfl rfl (v_not rfl rfl) ?_
           first | refine o_q _ rfl rfl rfl (v_pick_t rfl rfl rfl) ?_ | refine o_q _ rfl rfl rfl (v_pick_f rfl rfl rfl) ?_
           refine q_mv rfl rfl rfl rfl rfl ?_
           first | refine o_gn rfl rfl rfl rfl ?_ | refine o_g _ rfl rfl rfl rfl (v_fieldAddr rfl Tryz.underlying84 inf43 rfl rfl rfl rfl) ?_
           first | refine o_gn rfl rfl rfl rfl ?_ | refine o_g _ rfl rfl rfl rfl (v_ldN rfl Tryz.underlying43 rfl inf43 rfl rfl rfl) ?_
           first | refine o_gn rfl rfl rfl rfl ?_ | refine o_g _ rfl rfl rfl rfl (v_fieldAddr rfl Tryz.underlying25 inf3 rfl rfl rfl rfl) ?_
           first | refine o_gn rfl rfl rfl rfl ?_ | refine o_g _ rfl rfl rfl rfl (v_ld1 rfl Tryz.underlying3 rfl rfl rfl) ?_
           first | refine o_gn rfl rfl rfl rfl ?_ | refine o_gtest rfl rfl rfl rfl (OpQ.fn (span01_v _ _ _ _ (by omega) (by omega)) rfl rfl SubRC.sub) (fun h61 => ?_) (fun h61 => ?_)
           all_goals
            first | refine o_gn rfl rfl rfl rfl ?_ | refine o_g _ rfl rfl rfl rfl (v_not rfl rfl) ?_
            first | refine o_q _ rfl rfl rfl (v_pick_t rfl rfl rfl) ?_ | refine o_q _ rfl rfl rfl (v_pick_f rfl rfl rfl) ?_
            refine q_mv rfl rfl rfl rfl rfl ?_
            first | refine o_gn rfl rfl rfl rfl ?_ | refine o_g _ rfl rfl rfl rfl (v_fieldAddr rfl Tryz.underlying84 inf43 rfl rfl rfl rfl) ?_
            first | refine o_gn rfl rfl rfl rfl ?_ | refine o_g _ rfl rfl rfl rfl (v_fieldAddr rfl Tryz.underlying43 inf3 rfl rfl rfl rfl) ?_
            first | refine o_gn rfl rfl rfl rfl ?_ | refine o_g _ rfl rfl rfl rfl (v_ld1 rfl Tryz.underlying3 rfl rfl rfl) ?_
            first | refine o_gn rfl rfl rfl rfl ?_ | refine o_g _ rfl rfl rfl rfl (v_fieldAddr rfl Tryz.underlying84 inf43 rfl rfl rfl rfl) ?_
            first | refine o_gn rfl rfl rfl rfl ?_ | refine o_g _ rfl rfl rfl rfl (v_fieldAddr rfl Tryz.underlying43 inf3 rfl rfl rfl rfl) ?_
            first | refine o_gn rfl rfl rfl rfl ?_ | refine o_g _ rfl rfl rfl rfl (v_ld1 rfl Tryz.underlying3 rfl rfl rfl) ?_
            first | refine o_gn rfl rfl rfl rfl ?_ | refine o_gtest rfl rfl rfl rfl (v_geq rfl rfl rfl) (fun h71 => ?_) (fun h71 => ?_)
            all_goals
             first | refine o_q _ rfl rfl rfl (v_pick_t rfl rfl rfl) ?_ | refine o_q _ rfl rfl rfl (v_pick_f rfl rfl rfl) ?_
             refine o_nil (r_then ?_); refine r_cond rfl (fun hc72 => ?_) (fun hc72 => ?_)
             ·
              first
              | (exfalso; revert hc72; decide)
              |
               skip
               refine r_seq (r_region ?_); refine q_as rfl rfl rfl rfl rfl ?_; refine o_nil (r_then ?_); refine r_ret ?_; (with_reducible refine r_in_ret ?_; refine r_then_ret ?_; refine r_then_ret ?_; refine r_in_ret ?_; refine r_then_ret ?_); exact r_retv2 (Rd.tmp rfl rfl) (congrArg Value.bool (decide_eq_false (fun g : GoodK B => by obtain ⟨g1, g2, g3, g4, g5, g6⟩ := g; first | omega | (have g9 := g5 k1 (by omega); obtain ⟨a1, a2, a3, a4⟩ := g9; first | omega | contradiction) | (have g9 := g6 k2 (by omega); unfold MarkOk at g9; omega))).symm) SelMC.sel SubRC.sub
             ·
              first
              | (exfalso; revert hc72; decide)
              |
               skip
               refine r_skip ?_; refine r_in_normal ?_; refine r_then ?_; refine r_region ?_; refine q_mv rfl rfl rfl rfl rfl ?_; refine o_q _ rfl rfl rfl (v_add rfl rfl rfl (by omega)) ?_; refine q_as rfl rfl rfl rfl rfl ?_; refine o_nil (r_then ?_); refine r_next (k1 + 1) ?_ ?_ ?_
               ·
                exact r_here (by repeat (first | exact FSub.nil | refine FSub.cons rfl ?_)) SelMC.sel SubRC.sub
               ·
                exact ⟨by omega, Foot4.all_step hI0.2 ⟨by omega, by assumption, by assumption, by omega⟩⟩
               ·
                omega
        ·
         refine r_exit ?_; refine r_then_exit ?_; refine r_then_exit ?_; refine r_in_here ?_; refine r_then (r_seq ?_); refine r_seq (r_region ?_); refine q_as rfl rfl rfl rfl rfl ?_; refine o_nil (r_then ?_); refine r_block ?_; refine r_loop (ι := Nat) (fun k2 => k2 ≤ B.marks.length ∧ ∀ j, j < k2 → MarkOk B (B.marks.getD j default)) (fun k2 => [(1, pt b1 0), (5, i64 k2)]) (fun k2 => bx b1 25 (cellsK B lo mo lc mc) :: M) (fun k2 => [rowD lo 5 encLe B.leases, rowD mo 2 encMk B.marks] ++ Rf) (fun k2 => B.marks.length - k2) 0 ?_ ?_ ?_
         ·
          exact r_here (by repeat (first | exact FSub.nil | refine FSub.cons rfl ?_)) SelMC.sel SubRC.sub
         ·
          exact ⟨Nat.zero_le _, fun j hj => absurd hj (by omega)⟩
         ·
          rintro k2 hI1; refine r_seq ?_; refine r_seq (r_region ?_); refine q_mv rfl rfl rfl rfl rfl ?_; refine o_q _ rfl rfl rfl (v_fieldAddr rfl Tryz.underlying25 inf23 rfl rfl rfl rfl) ?_; refine o_q _ rfl rfl rfl (v_ld1 rfl Tryz.underlying23 rfl rfl rfl) ?_; refine o_q _ rfl rfl rfl (v_len rfl rfl Tryz.underlying23 rfl) ?_; refine o_q _ rfl rfl rfl (v_lss rfl rfl rfl) ?_; refine o_nil (r_then ?_); refine r_condd rfl (fun hc77 => ?_) (fun hc77 => ?_)
          ·
           refine r_skip (r_then ?_); refine r_seq (r_block ?_); refine r_seq ?_; refine r_region_q mixed (by kernel_rfl) ?_; refine q_q _ rfl rfl rfl (v_ldW rfl Tryz.underlying25 rfl inf25 rfl rfl) ?_; refine q_q _ rfl rfl rfl (v_fieldAddr rfl Tryz.underlying25 inf23 rfl rfl rfl rfl) ?_; refine q_q _ rfl rfl rfl (v_ld1 rfl Tryz.underlying23 rfl rfl rfl) ?_; refine q_q _ rfl rfl rfl (v_move rfl rfl) ?_; refine q_q _ rfl rfl rfl (v_indexAddrSn rfl Tryz.underlying23 inf88 rfl rfl rfl (by omega) rfl) ?_; refine q_q _ rfl rfl rfl (v_fieldAddr rfl Tryz.underlying88 inf3 rfl rfl rfl rfl) ?_; refine q_q _ rfl rfl rfl (v_loadE1 rfl Tryz.underlying3 rfl rfl (by omega) rfl rfl) ?_; refine q_test rfl rfl rfl (OpQ.fn (perch01_v B lo mo lc mc (by omega) _) rfl rfl SubRC.sub) (fun h87 => ?_) (fun h87 => ?_)
           all_goals
            refine q_q _ rfl rfl rfl (v_not rfl rfl) ?_; refine q_q _ rfl rfl rfl (v_move rfl rfl) ?_
            first | refine q_gn rfl rfl rfl rfl ?_ | refine q_g _ rfl rfl rfl rfl (v_ldW rfl Tryz.underlying25 rfl inf25 rfl rfl) ?_
            first | refine q_gn rfl rfl rfl rfl ?_ | refine q_g _ rfl rfl rfl rfl (v_fieldAddr rfl Tryz.underlying25 inf23 rfl rfl rfl rfl) ?_
            first | refine q_gn rfl rfl rfl rfl ?_ | refine q_g _ rfl rfl rfl rfl (v_ld1 rfl Tryz.underlying23 rfl rfl rfl) ?_
            first | refine q_gn rfl rfl rfl rfl ?_ | refine q_g _ rfl rfl rfl rfl (v_move rfl rfl) ?_
            first | refine q_gn rfl rfl rfl rfl ?_ | refine q_g _ rfl rfl rfl rfl (v_indexAddrSn rfl Tryz.underlying23 inf88 rfl rfl rfl (by omega) rfl) ?_
            first | refine q_gn rfl rfl rfl rfl ?_ | refine q_g _ rfl rfl rfl rfl (v_fieldAddr rfl Tryz.underlying88 inf3 rfl rfl rfl rfl) ?_
            first | refine q_gn rfl rfl rfl rfl ?_ | refine q_g _ rfl rfl rfl rfl (v_loadE1 rfl Tryz.underlying3 rfl rfl (by omega) rfl rfl) ?_
            first | refine q_gn rfl rfl rfl rfl ?_ | refine q_gtest rfl rfl rfl rfl (OpQ.fn (holder01_v B lo mo lc mc _) rfl rfl SubRC.sub) (fun h97 => ?_) (fun h97 => ?_)
            all_goals
             first | refine q_gn rfl rfl rfl rfl ?_ | refine q_g _ rfl rfl rfl rfl (v_not rfl rfl) ?_
             first | refine q_q _ rfl rfl rfl (v_pick_t rfl rfl rfl) ?_ | refine q_q _ rfl rfl rfl (v_pick_f rfl rfl rfl) ?_
             refine q_nil ?_; refine r_then ?_; refine r_cond rfl (fun hc99 => ?_) (fun hc99 => ?_)
             ·
              first
              | (exfalso; revert hc99; decide)
              |
               skip
               refine r_seq (r_region ?_); refine q_as rfl rfl rfl rfl rfl ?_; refine o_nil (r_then ?_); refine r_ret ?_; (with_reducible refine r_in_ret ?_; refine r_then_ret ?_; refine r_then_ret ?_; refine r_in_ret ?_; refine r_then_ret ?_); exact r_retv2 (Rd.tmp rfl rfl) (congrArg Value.bool (decide_eq_false (fun g : GoodK B => by obtain ⟨g1, g2, g3, g4, g5, g6⟩ := g; first | omega | (have g9 := g5 k1 (by omega); obtain ⟨a1, a2, a3, a4⟩ := g9; first | omega | contradiction) | (have g9 := g6 k2 (by omega); unfold MarkOk at g9; omega))).symm) SelMC.sel SubRC.sub
             ·
              first
              | (exfalso; revert hc99; decide)
              |
               skip
               refine r_skip ?_; refine r_in_normal ?_; refine r_then ?_; refine r_region ?_; refine q_mv rfl rfl rfl rfl rfl ?_; refine o_q _ rfl rfl rfl (v_add rfl rfl rfl (by omega)) ?_; refine q_as rfl rfl rfl rfl rfl ?_; refine o_nil (r_then ?_); refine r_next (k2 + 1) ?_ ?_ ?_
               ·
                exact r_here (by repeat (first | exact FSub.nil | refine FSub.cons rfl ?_)) SelMC.sel SubRC.sub
               ·
                exact ⟨by omega, Foot4.all_step hI1.2 ⟨by omega, by omega⟩⟩
               ·
                omega
          ·
           refine r_exit ?_; refine r_then_exit ?_; refine r_then_exit ?_; refine r_in_here ?_; refine r_then (r_seq (r_region ?_)); refine q_as rfl rfl rfl rfl rfl ?_; refine o_nil (r_then ?_); refine r_ret ?_; exact r_retv2 (Rd.tmp rfl rfl) (congrArg Value.bool (decide_eq_true (⟨by omega, by omega, by omega, by omega, fun j hj => hI0.2 j (by omega), fun j hj => hI1.2 j (by omega)⟩ : GoodK B)).symm) SelMC.sel SubRC.sub
variable (D : Dr) (bo wo ro so : Option Addr) (bc wc rc sc : Nat)
set_option maxHeartbeats 4000000 in
theorem DrainD_v (hl1 : D.banks.length ≤ 40) (hl2 : D.ways.length ≤ 40) (hl3 : D.rights.length ≤ 40) (hl4 : D.seen.length ≤ 40) : FnV Tryz.prog 6 [valD D bo wo ro so bc wc rc sc] [rowD bo 4 encDB D.banks, rowD wo 2 encDW D.ways, rowD ro 3 encR D.rights, rowD so 2 encDW D.seen] (.bool (decide (GoodD D))) := by
 refine FnV.intro Tryz.call6 Tryz.func6 rfl Tryz.ntmps6 rfl ?_; intro W M Rf; refine r_seq (r_region ?_); refine o_boxA rfl rfl rfl rfl rfl (fun b1 => ?_); refine q_as rfl rfl rfl rfl rfl ?_; refine o_nil (r_then (r_seq ?_)); refine r_seq (r_region ?_); refine o_q _ rfl rfl rfl (v_fieldAddr rfl Tryz.underlying30 inf26 rfl rfl rfl rfl) ?_; refine o_q _ rfl rfl rfl (v_ld1 rfl Tryz.underlying26 rfl rfl rfl) ?_; refine o_q _ rfl rfl rfl (v_len rfl rfl Tryz.underlying26 rfl) ?_; refine o_test rfl rfl rfl (OpQ.fn (in07_v _ _ _) rfl rfl SubRC.sub) (fun h11 => ?_) (fun h11 => ?_)
 all_goals
  refine o_q _ rfl rfl rfl (v_not rfl rfl) ?_; refine q_mv rfl rfl rfl rfl rfl ?_
  first | refine o_gn rfl rfl rfl rfl ?_ | refine o_g _ rfl rfl rfl rfl (v_fieldAddr rfl Tryz.underlying30 inf27 rfl rfl rfl rfl) ?_
  first | refine o_gn rfl rfl rfl rfl ?_ | refine o_g _ rfl rfl rfl rfl (v_ld1 rfl Tryz.underlying27 rfl rfl rfl) ?_
  first | refine o_gn rfl rfl rfl rfl ?_ | refine o_g _ rfl rfl rfl rfl (v_len rfl rfl Tryz.underlying27 rfl) ?_
  first | refine o_gn rfl rfl rfl rfl ?_ | refine o_gtest rfl rfl rfl rfl (v_gtr rfl rfl rfl) (fun h17 => ?_) (fun h17 => ?_)
  all_goals
   first | refine o_q _ rfl rfl rfl (v_pick_t rfl rfl rfl) ?_ | refine o_q _ rfl rfl rfl (v_pick_f rfl rfl rfl) ?_
   refine q_mv rfl rfl rfl rfl rfl ?_
   first | refine o_gn rfl rfl rfl rfl ?_ | refine o_g _ rfl rfl rfl rfl (v_fieldAddr rfl Tryz.underlying30 inf28 rfl rfl rfl rfl) ?_
   first | refine o_gn rfl rfl rfl rfl ?_ | refine o_g _ rfl rfl rfl rfl (v_ld1 rfl Tryz.underlying28 rfl rfl rfl) ?_
   first | refine o_gn rfl rfl rfl rfl ?_ | refine o_g _ rfl rfl rfl rfl (v_len rfl rfl Tryz.underlying28 rfl) ?_
   first | refine o_gn rfl rfl rfl rfl ?_ | refine o_gtest rfl rfl rfl rfl (v_gtr rfl rfl rfl) (fun h23 => ?_) (fun h23 => ?_)
   all_goals
    first | refine o_q _ rfl rfl rfl (v_pick_t rfl rfl rfl) ?_ | refine o_q _ rfl rfl rfl (v_pick_f rfl rfl rfl) ?_
    refine q_mv rfl rfl rfl rfl rfl ?_
    first | refine o_gn rfl rfl rfl rfl ?_ | refine o_g _ rfl rfl rfl rfl (v_fieldAddr rfl Tryz.underlying30 inf27 rfl rfl rfl rfl) ?_
    first | refine o_gn rfl rfl rfl rfl ?_ | refine o_g _ rfl rfl rfl rfl (v_ld1 rfl Tryz.underlying27 rfl rfl rfl) ?_
    first | refine o_gn rfl rfl rfl rfl ?_ | refine o_g _ rfl rfl rfl rfl (v_len rfl rfl Tryz.underlying27 rfl) ?_
    first | refine o_gn rfl rfl rfl rfl ?_ | refine o_gtest rfl rfl rfl rfl (v_gtr rfl rfl rfl) (fun h29 => ?_) (fun h29 => ?_)
    all_goals
     first | refine o_q _ rfl rfl rfl (v_pick_t rfl rfl rfl) ?_ | refine o_q _ rfl rfl rfl (v_pick_f rfl rfl rfl) ?_
     refine o_nil (r_then ?_); refine r_cond rfl (fun hc30 => ?_) (fun hc30 => ?_)
     ·
      first
      | (exfalso; revert hc30; decide)
      |
       skip
       refine r_seq (r_region ?_); refine q_as rfl rfl rfl rfl rfl ?_; refine o_nil (r_then ?_); refine r_ret ?_; (with_reducible refine r_then_ret ?_); exact r_retv2 (Rd.tmp rfl rfl) (congrArg Value.bool (decide_eq_false (fun g : GoodD D => by obtain ⟨g1, g2, g3, g4, g5, g6, g7, g8⟩ := g; first | omega | (have g9 := g5 k1 (by omega); obtain ⟨a1, a2⟩ := g9; contradiction) | (have g9 := g6 k2 (by omega); contradiction) | (have g9 := g7 k3 (by omega); obtain ⟨a1, a2⟩ := g9; first | contradiction | omega) | (have g9 := g8 k4 (by omega); contradiction))).symm) SelMC.sel SubRC.sub
     ·
      first
      | (exfalso; revert hc30; decide)
      |
       skip
       refine r_skip (r_then ?_); refine r_seq ?_; refine r_seq (r_region ?_); refine q_as rfl rfl rfl rfl rfl ?_; refine o_nil (r_then ?_); refine r_block ?_; refine r_loop (ι := Nat) (fun k1 => k1 ≤ D.banks.length ∧ ∀ j, j < k1 → SpanD (D.banks.getD j default).llo (D.banks.getD j default).lhi 20 ∧ SpanD (D.banks.getD j default).ylo (D.banks.getD j default).yhi 20) (fun k1 => [(1, pt b1 0), (3, i64 k1)]) (fun k1 => bx b1 30 (cellsD D bo wo ro so bc wc rc sc) :: M) (fun k1 => [rowD bo 4 encDB D.banks, rowD wo 2 encDW D.ways, rowD ro 3 encR D.rights, rowD so 2 encDW D.seen] ++ Rf) (fun k1 => D.banks.length - k1) 0 ?_ ?_ ?_
       ·
        exact r_here (by repeat (first | exact FSub.nil | refine FSub.cons rfl ?_)) SelMC.sel SubRC.sub
       ·
        exact ⟨Nat.zero_le _, fun j hj => absurd hj (by omega)⟩
       ·
        rintro k1 hI0; refine r_seq ?_; refine r_seq (r_region ?_); refine q_mv rfl rfl rfl rfl rfl ?_; refine o_q _ rfl rfl rfl (v_fieldAddr rfl Tryz.underlying30 inf26 rfl rfl rfl rfl) ?_; refine o_q _ rfl rfl rfl (v_ld1 rfl Tryz.underlying26 rfl rfl rfl) ?_; refine o_q _ rfl rfl rfl (v_len rfl rfl Tryz.underlying26 rfl) ?_; refine o_q _ rfl rfl rfl (v_lss rfl rfl rfl) ?_; refine o_nil (r_then ?_); refine r_condd rfl (fun hc35 => ?_) (fun hc35 => ?_)
        ·
         refine r_skip (r_then ?_); refine r_seq (r_block ?_); refine r_seq (r_region ?_); refine o_q _ rfl rfl rfl (v_fieldAddr rfl Tryz.underlying30 inf26 rfl rfl rfl rfl) ?_; refine o_q _ rfl rfl rfl (v_ld1 rfl Tryz.underlying26 rfl rfl rfl) ?_; refine q_mv rfl rfl rfl rfl rfl ?_; refine o_q _ rfl rfl rfl (v_indexAddrSn rfl Tryz.underlying26 inf53 rfl rfl rfl (by omega) rfl) ?_; refine o_q _ rfl rfl rfl (v_fieldAddr rfl Tryz.underlying53 inf43 rfl rfl rfl rfl) ?_; refine o_q _ rfl rfl rfl (v_loadEN rfl Tryz.underlying43 rfl inf43 rfl (by omega) rfl rfl rfl) ?_; refine o_test rfl rfl rfl (OpQ.fn (span07_v _ _ _ (by omega)) rfl rfl SubRC.sub) (fun h44 => ?_) (fun h44 => ?_)
         all_goals
          refine o_q _ rfl rfl rfl (v_not rfl rfl) ?_; refine q_mv rfl rfl rfl rfl rfl ?_
          first | refine o_gn rfl rfl rfl rfl ?_ | refine o_g _ rfl rfl rfl rfl (v_fieldAddr rfl Tryz.underlying30 inf26 rfl rfl rfl rfl) ?_
          first | refine o_gn rfl rfl rfl rfl ?_ | refine o_g _ rfl rfl rfl rfl (v_ld1 rfl Tryz.underlying26 rfl rfl rfl) ?_
          first | refine o_gn rfl rfl rfl rfl ?_ | refine o_g _ rfl rfl rfl rfl (v_move rfl rfl) ?_
          first | refine o_gn rfl rfl rfl rfl ?_ | refine o_g _ rfl rfl rfl rfl (v_indexAddrSn rfl Tryz.underlying26 inf53 rfl rfl rfl (by omega) rfl) ?_
          first | refine o_gn rfl rfl rfl rfl ?_ | refine o_g _ rfl rfl rfl rfl (v_fieldAddr rfl Tryz.underlying53 inf43 rfl rfl rfl rfl) ?_
          first | refine o_gn rfl rfl rfl rfl ?_ | refine o_g _ rfl rfl rfl rfl (v_loadEN rfl Tryz.underlying43 rfl inf43 rfl (by omega) rfl rfl rfl) ?_
          first | refine o_gn rfl rfl rfl rfl ?_ | refine o_gtest rfl rfl rfl rfl (OpQ.fn (span07_v _ _ _ (by omega)) rfl rfl SubRC.sub) (fun h53 => ?_) (fun h53 => ?_)
          all_goals
           first | refine o_gn rfl rfl rfl rfl ?_ | refine o_g _ rfl rfl rfl rfl (v_not rfl rfl) ?_
           first | refine o_q _ rfl rfl rfl (v_pick_t rfl rfl rfl) ?_ | refine o_q _ rfl rfl rfl (v_pick_f rfl rfl rfl) ?_
           refine o_nil (r_then ?_); refine r_cond rfl (fun hc55 => ?_) (fun hc55 => ?_)
           ·
            first
            | (exfalso; revert hc55; decide)
            |
             skip
             refine r_seq (r_region ?_); refine q_as rfl rfl rfl rfl rfl ?_; refine o_nil (r_then ?_); refine r_ret ?_; (with_reducible refine r_in_ret ?_; refine r_then_ret ?_; refine r_then_ret ?_; refine r_in_ret ?_; refine r_then_ret ?_); exact r_retv2 (Rd.tmp rfl rfl) (congrArg Value.bool (decide_eq_false (fun g : GoodD D => by obtain ⟨g1, g2, g3, g4, g5, g6, g7, g8⟩ := g; first | omega | (have g9 := g5 k1 (by omega); obtain ⟨a1, a2⟩ := g9; contradiction) | (have g9 := g6 k2 (by omega); contradiction) | (have g9 := g7 k3 (by omega); obtain ⟨a1, a2⟩ := g9; first | contradiction | omega) | (have g9 := g8 k4 (by omega); contradiction))).symm) SelMC.sel SubRC.sub
           ·
            first
            | (exfalso; revert hc55; decide)
            |
             skip
             refine r_skip ?_; refine r_in_normal ?_; refine r_then ?_; refine r_region ?_; refine q_mv rfl rfl rfl rfl rfl ?_; refine o_q _ rfl rfl rfl (v_add rfl rfl rfl (by omega)) ?_; refine q_as rfl rfl rfl rfl rfl ?_; refine o_nil (r_then ?_); refine r_next (k1 + 1) ?_ ?_ ?_
             ·
              exact r_here (by repeat (first | exact FSub.nil | refine FSub.cons rfl ?_)) SelMC.sel SubRC.sub
             ·
              exact ⟨by omega, Foot4.all_step hI0.2 ⟨by assumption, by assumption⟩⟩
             ·
              omega
        ·
         refine r_exit ?_; refine r_then_exit ?_; refine r_then_exit ?_; refine r_in_here ?_; refine r_then (r_seq ?_); refine r_seq (r_region ?_); refine q_as rfl rfl rfl rfl rfl ?_; refine o_nil (r_then ?_); refine r_block ?_; refine r_loop (ι := Nat) (fun k2 => k2 ≤ D.ways.length ∧ ∀ j, j < k2 → TwoD D (D.ways.getD j default).a (D.ways.getD j default).b) (fun k2 => [(1, pt b1 0), (4, i64 k2)]) (fun k2 => bx b1 30 (cellsD D bo wo ro so bc wc rc sc) :: M) (fun k2 => [rowD bo 4 encDB D.banks, rowD wo 2 encDW D.ways, rowD ro 3 encR D.rights, rowD so 2 encDW D.seen] ++ Rf) (fun k2 => D.ways.length - k2) 0 ?_ ?_ ?_
         ·
          exact r_here (by repeat (first | exact FSub.nil | refine FSub.cons rfl ?_)) SelMC.sel SubRC.sub
         ·
          exact ⟨Nat.zero_le _, fun j hj => absurd hj (by omega)⟩
         ·
          rintro k2 hI1; refine r_seq ?_; refine r_seq (r_region ?_); refine q_mv rfl rfl rfl rfl rfl ?_; refine o_q _ rfl rfl rfl (v_fieldAddr rfl Tryz.underlying30 inf27 rfl rfl rfl rfl) ?_; refine o_q _ rfl rfl rfl (v_ld1 rfl Tryz.underlying27 rfl rfl rfl) ?_; refine o_q _ rfl rfl rfl (v_len rfl rfl Tryz.underlying27 rfl) ?_; refine o_q _ rfl rfl rfl (v_lss rfl rfl rfl) ?_; refine o_nil (r_then ?_); refine r_condd rfl (fun hc60 => ?_) (fun hc60 => ?_)
          ·
           refine r_skip (r_then ?_); refine r_seq (r_block ?_); refine r_seq ?_; refine r_region_q mixed (by kernel_rfl) ?_; refine q_q _ rfl rfl rfl (v_ldW rfl Tryz.underlying30 rfl inf30 rfl rfl) ?_; refine q_q _ rfl rfl rfl (v_fieldAddr rfl Tryz.underlying30 inf27 rfl rfl rfl rfl) ?_; refine q_q _ rfl rfl rfl (v_ld1 rfl Tryz.underlying27 rfl rfl rfl) ?_; refine q_q _ rfl rfl rfl (v_move rfl rfl) ?_; refine q_q _ rfl rfl rfl (v_indexAddrSn rfl Tryz.underlying27 inf92 rfl rfl rfl (by omega) rfl) ?_; refine q_q _ rfl rfl rfl (v_fieldAddr rfl Tryz.underlying92 inf3 rfl rfl rfl rfl) ?_; refine q_q _ rfl rfl rfl (v_loadE1 rfl Tryz.underlying3 rfl rfl (by omega) rfl rfl) ?_; refine q_q _ rfl rfl rfl (v_fieldAddr rfl Tryz.underlying30 inf27 rfl rfl rfl rfl) ?_; refine q_q _ rfl rfl rfl (v_ld1 rfl Tryz.underlying27 rfl rfl rfl) ?_; refine q_q _ rfl rfl rfl (v_move rfl rfl) ?_; refine q_q _ rfl rfl rfl (v_indexAddrSn rfl Tryz.underlying27 inf92 rfl rfl rfl (by omega) rfl) ?_; refine q_q _ rfl rfl rfl (v_fieldAddr rfl Tryz.underlying92 inf3 rfl rfl rfl rfl) ?_; refine q_q _ rfl rfl rfl (v_loadE1 rfl Tryz.underlying3 rfl rfl (by omega) rfl rfl) ?_; refine q_test rfl rfl rfl (OpQ.fn (two07_v D bo wo ro so bc wc rc sc hl1 _ _) rfl rfl SubRC.sub) (fun h76 => ?_) (fun h76 => ?_)
           all_goals
            refine q_q _ rfl rfl rfl (v_not rfl rfl) ?_; refine q_nil ?_; refine r_then ?_; refine r_cond rfl (fun hc77 => ?_) (fun hc77 => ?_)
            ·
             first
             | (exfalso; revert hc77; decide)
             |
              skip
              refine r_seq (r_region ?_); refine q_as rfl rfl rfl rfl rfl ?_; refine o_nil (r_then ?_); refine r_ret ?_; (with_reducible refine r_in_ret ?_; refine r_then_ret ?_; refine r_then_ret ?_; refine r_in_ret ?_; refine r_then_ret ?_); exact r_retv2 (Rd.tmp rfl rfl) (congrArg Value.bool (decide_eq_false (fun g : GoodD D => by obtain ⟨g1, g2, g3, g4, g5, g6, g7, g8⟩ := g; first | omega | (have g9 := g5 k1 (by omega); obtain ⟨a1, a2⟩ := g9; contradiction) | (have g9 := g6 k2 (by omega); contradiction) | (have g9 := g7 k3 (by omega); obtain ⟨a1, a2⟩ := g9; first | contradiction | omega) | (have g9 := g8 k4 (by omega); contradiction))).symm) SelMC.sel SubRC.sub
            ·
             first
             | (exfalso; revert hc77; decide)
             |
              skip
              refine r_skip ?_; refine r_in_normal ?_; refine r_then ?_; refine r_region ?_; refine q_mv rfl rfl rfl rfl rfl ?_; refine o_q _ rfl rfl rfl (v_add rfl rfl rfl (by omega)) ?_; refine q_as rfl rfl rfl rfl rfl ?_; refine o_nil (r_then ?_); refine r_next (k2 + 1) ?_ ?_ ?_
              ·
               exact r_here (by repeat (first | exact FSub.nil | refine FSub.cons rfl ?_)) SelMC.sel SubRC.sub
              ·
               exact ⟨by omega, Foot4.all_step hI1.2 (by assumption)⟩
              ·
               omega
          ·
           refine r_exit ?_; refine r_then_exit ?_; refine r_then_exit ?_; refine r_in_here ?_; refine r_then (r_seq ?_); refine r_seq (r_region ?_); refine q_as rfl rfl rfl rfl rfl ?_; refine o_nil (r_then ?_); refine r_block ?_; refine r_loop (ι := Nat) (fun k3 => k3 ≤ D.rights.length ∧ ∀ j, j < k3 → TwoD D (D.rights.getD j default).of_ (D.rights.getD j default).to_ ∧ (0 ≤ (D.rights.getD j default).most ∧ (D.rights.getD j default).most ≤ 100)) (fun k3 => [(1, pt b1 0), (5, i64 k3)]) (fun k3 => bx b1 30 (cellsD D bo wo ro so bc wc rc sc) :: M) (fun k3 => [rowD bo 4 encDB D.banks, rowD wo 2 encDW D.ways, rowD ro 3 encR D.rights, rowD so 2 encDW D.seen] ++ Rf) (fun k3 => D.rights.length - k3) 0 ?_ ?_ ?_
           ·
            exact r_here (by repeat (first | exact FSub.nil | refine FSub.cons rfl ?_)) SelMC.sel SubRC.sub
           ·
            exact ⟨Nat.zero_le _, fun j hj => absurd hj (by omega)⟩
           ·
            rintro k3 hI2; refine r_seq ?_; refine r_seq (r_region ?_); refine q_mv rfl rfl rfl rfl rfl ?_; refine o_q _ rfl rfl rfl (v_fieldAddr rfl Tryz.underlying30 inf28 rfl rfl rfl rfl) ?_; refine o_q _ rfl rfl rfl (v_ld1 rfl Tryz.underlying28 rfl rfl rfl) ?_; refine o_q _ rfl rfl rfl (v_len rfl rfl Tryz.underlying28 rfl) ?_; refine o_q _ rfl rfl rfl (v_lss rfl rfl rfl) ?_; refine o_nil (r_then ?_); refine r_condd rfl (fun hc82 => ?_) (fun hc82 => ?_)
            ·
             refine r_skip (r_then ?_); refine r_seq (r_block ?_); refine r_seq (r_region ?_); refine o_q _ rfl rfl rfl (v_fieldAddr rfl Tryz.underlying30 inf28 rfl rfl rfl rfl) ?_; refine o_q _ rfl rfl rfl (v_ld1 rfl Tryz.underlying28 rfl rfl rfl) ?_; refine q_mv rfl rfl rfl rfl rfl ?_; refine o_q _ rfl rfl rfl (v_indexAddrSn rfl Tryz.underlying28 inf46 rfl rfl rfl (by omega) rfl) ?_; refine o_q _ rfl rfl rfl (v_loadEN rfl Tryz.underlying46 rfl inf46 rfl (by omega) rfl rfl rfl) ?_; refine o_alloc rfl inf46 rfl rfl rfl rfl rfl (fun b6 => ?_); refine o_st rfl inf46 rfl rfl rfl rfl rfl rfl rfl rfl ?_; refine o_nil (r_then (r_seq (r_region ?_))); refine o_q _ rfl rfl rfl (v_ldW rfl Tryz.underlying30 rfl inf30 rfl rfl) ?_; refine o_q _ rfl rfl rfl (v_fieldAddr rfl Tryz.underlying46 inf3 rfl rfl rfl rfl) ?_; refine o_q _ rfl rfl rfl (v_ld1 rfl Tryz.underlying3 rfl rfl rfl) ?_; refine o_q _ rfl rfl rfl (v_fieldAddr rfl Tryz.underlying46 inf3 rfl rfl rfl rfl) ?_; refine o_q _ rfl rfl rfl (v_ld1 rfl Tryz.underlying3 rfl rfl rfl) ?_; refine o_test rfl rfl rfl (OpQ.fn (two07_v D bo wo ro so bc wc rc sc hl1 _ _) rfl rfl SubRC.sub) (fun h95 => ?_) (fun h95 => ?_)
             all_goals
              refine o_q _ rfl rfl rfl (v_not rfl rfl) ?_; refine q_mv rfl rfl rfl rfl rfl ?_
              first | refine o_gn rfl rfl rfl rfl ?_ | refine o_g _ rfl rfl rfl rfl (v_fieldAddr rfl Tryz.underlying46 inf3 rfl rfl rfl rfl) ?_
              first | refine o_gn rfl rfl rfl rfl ?_ | refine o_g _ rfl rfl rfl rfl (v_ld1 rfl Tryz.underlying3 rfl rfl rfl) ?_
              first | refine o_gn rfl rfl rfl rfl ?_ | refine o_gtest rfl rfl rfl rfl (OpQ.fn (in07_v _ _ _) rfl rfl SubRC.sub) (fun h100 => ?_) (fun h100 => ?_)
              all_goals
               first | refine o_gn rfl rfl rfl rfl ?_ | refine o_g _ rfl rfl rfl rfl (v_not rfl rfl) ?_
               first | refine o_q _ rfl rfl rfl (v_pick_t rfl rfl rfl) ?_ | refine o_q _ rfl rfl rfl (v_pick_f rfl rfl rfl) ?_
               refine o_nil (r_then ?_); refine r_cond rfl (fun hc102 => ?_) (fun hc102 => ?_)
               ·
                first
                | (exfalso; revert hc102; decide)
                |
                 skip
                 refine r_seq (r_region ?_); refine q_as rfl rfl rfl rfl rfl ?_; refine o_nil (r_then ?_); refine r_ret ?_; (with_reducible refine r_in_ret ?_; refine r_then_ret ?_; refine r_then_ret ?_; refine r_in_ret ?_; refine r_then_ret ?_); exact r_retv2 (Rd.tmp rfl rfl) (congrArg Value.bool (decide_eq_false (fun g : GoodD D => by obtain ⟨g1, g2, g3, g4, g5, g6, g7, g8⟩ := g; first | omega | (have g9 := g5 k1 (by omega); obtain ⟨a1, a2⟩ := g9; contradiction) | (have g9 := g6 k2 (by omega); contradiction) | (have g9 := g7 k3 (by omega); obtain ⟨a1, a2⟩ := g9; first | contradiction | omega) | (have g9 := g8 k4 (by omega); contradiction))).symm) SelMC.sel SubRC.sub
               ·
                first
                | (exfalso; revert hc102; decide)
                |
                 skip
                 refine r_skip ?_; refine r_in_normal ?_; refine r_then ?_; refine r_region ?_; refine q_mv rfl rfl rfl rfl rfl ?_; refine o_q _ rfl rfl rfl (v_add rfl rfl rfl (by omega)) ?_; refine q_as rfl rfl rfl rfl rfl ?_; refine o_nil (r_then ?_); refine r_next (k3 + 1) ?_ ?_ ?_
                 ·
                  exact r_here (by repeat (first | exact FSub.nil | refine FSub.cons rfl ?_)) SelMC.sel SubRC.sub
                 ·
                  exact ⟨by omega, Foot4.all_step hI2.2 ⟨by assumption, by omega⟩⟩
                 ·
                  omega
            ·
             refine r_exit ?_; refine r_then_exit ?_; refine r_then_exit ?_; refine r_in_here ?_; refine r_then (r_seq ?_); refine r_seq (r_region ?_); refine q_as rfl rfl rfl rfl rfl ?_; refine o_nil (r_then ?_); refine r_block ?_; refine r_loop (ι := Nat) (fun k4 => k4 ≤ D.seen.length ∧ ∀ j, j < k4 → TwoD D (D.seen.getD j default).a (D.seen.getD j default).b) (fun k4 => [(1, pt b1 0), (7, i64 k4)]) (fun k4 => bx b1 30 (cellsD D bo wo ro so bc wc rc sc) :: M) (fun k4 => [rowD bo 4 encDB D.banks, rowD wo 2 encDW D.ways, rowD ro 3 encR D.rights, rowD so 2 encDW D.seen] ++ Rf) (fun k4 => D.seen.length - k4) 0 ?_ ?_ ?_
             ·
              exact r_here (by repeat (first | exact FSub.nil | refine FSub.cons rfl ?_)) SelMC.sel SubRC.sub
             ·
              exact ⟨Nat.zero_le _, fun j hj => absurd hj (by omega)⟩
             ·
              rintro k4 hI3; refine r_seq ?_; refine r_seq (r_region ?_); refine q_mv rfl rfl rfl rfl rfl ?_; refine o_q _ rfl rfl rfl (v_fieldAddr rfl Tryz.underlying30 inf27 rfl rfl rfl rfl) ?_; refine o_q _ rfl rfl rfl (v_ld1 rfl Tryz.underlying27 rfl rfl rfl) ?_; refine o_q _ rfl rfl rfl (v_len rfl rfl Tryz.underlying27 rfl) ?_; refine o_q _ rfl rfl rfl (v_lss rfl rfl rfl) ?_; refine o_nil (r_then ?_); refine r_condd rfl (fun hc107 => ?_) (fun hc107 => ?_)
              ·
               refine r_skip (r_then ?_); refine r_seq (r_block ?_); refine r_seq ?_; refine r_region_q mixed (by kernel_rfl) ?_; refine q_q _ rfl rfl rfl (v_ldW rfl Tryz.underlying30 rfl inf30 rfl rfl) ?_; refine q_q _ rfl rfl rfl (v_fieldAddr rfl Tryz.underlying30 inf27 rfl rfl rfl rfl) ?_; refine q_q _ rfl rfl rfl (v_ld1 rfl Tryz.underlying27 rfl rfl rfl) ?_; refine q_q _ rfl rfl rfl (v_move rfl rfl) ?_; refine q_q _ rfl rfl rfl (v_indexAddrSn rfl Tryz.underlying27 inf92 rfl rfl rfl (by omega) rfl) ?_; refine q_q _ rfl rfl rfl (v_fieldAddr rfl Tryz.underlying92 inf3 rfl rfl rfl rfl) ?_; refine q_q _ rfl rfl rfl (v_loadE1 rfl Tryz.underlying3 rfl rfl (by omega) rfl rfl) ?_; refine q_q _ rfl rfl rfl (v_fieldAddr rfl Tryz.underlying30 inf27 rfl rfl rfl rfl) ?_; refine q_q _ rfl rfl rfl (v_ld1 rfl Tryz.underlying27 rfl rfl rfl) ?_; refine q_q _ rfl rfl rfl (v_move rfl rfl) ?_; refine q_q _ rfl rfl rfl (v_indexAddrSn rfl Tryz.underlying27 inf92 rfl rfl rfl (by omega) rfl) ?_; refine q_q _ rfl rfl rfl (v_fieldAddr rfl Tryz.underlying92 inf3 rfl rfl rfl rfl) ?_; refine q_q _ rfl rfl rfl (v_loadE1 rfl Tryz.underlying3 rfl rfl (by omega) rfl rfl) ?_; refine q_test rfl rfl rfl (OpQ.fn (two07_v D bo wo ro so bc wc rc sc hl1 _ _) rfl rfl SubRC.sub) (fun h123 => ?_) (fun h123 => ?_)
               all_goals
                refine q_q _ rfl rfl rfl (v_not rfl rfl) ?_; refine q_nil ?_; refine r_then ?_; refine r_cond rfl (fun hc124 => ?_) (fun hc124 => ?_)
                ·
                 first
                 | (exfalso; revert hc124; decide)
                 |
                  skip
                  refine r_seq (r_region ?_); refine q_as rfl rfl rfl rfl rfl ?_; refine o_nil (r_then ?_); refine r_ret ?_; (with_reducible refine r_in_ret ?_; refine r_then_ret ?_; refine r_then_ret ?_; refine r_in_ret ?_; refine r_then_ret ?_); exact r_retv2 (Rd.tmp rfl rfl) (congrArg Value.bool (decide_eq_false (fun g : GoodD D => by obtain ⟨g1, g2, g3, g4, g5, g6, g7, g8⟩ := g; first | omega | (have g9 := g5 k1 (by omega); obtain ⟨a1, a2⟩ := g9; contradiction) | (have g9 := g6 k2 (by omega); contradiction) | (have g9 := g7 k3 (by omega); obtain ⟨a1, a2⟩ := g9; first | contradiction | omega) | (have g9 := g8 k4 (by omega); contradiction))).symm) SelMC.sel SubRC.sub
                ·
                 first
                 | (exfalso; revert hc124; decide)
                 |
                  skip
                  refine r_skip ?_; refine r_in_normal ?_; refine r_then ?_; refine r_region ?_; refine q_mv rfl rfl rfl rfl rfl ?_; refine o_q _ rfl rfl rfl (v_add rfl rfl rfl (by omega)) ?_; refine q_as rfl rfl rfl rfl rfl ?_; refine o_nil (r_then ?_); refine r_next (k4 + 1) ?_ ?_ ?_
                  ·
                   exact r_here (by repeat (first | exact FSub.nil | refine FSub.cons rfl ?_)) SelMC.sel SubRC.sub
                  ·
                   exact ⟨by omega, Foot4.all_step hI3.2 (by assumption)⟩
                  ·
                   omega
              ·
               refine r_exit ?_; refine r_then_exit ?_; refine r_then_exit ?_; refine r_in_here ?_; refine r_then (r_seq (r_region ?_)); refine q_as rfl rfl rfl rfl rfl ?_; refine o_nil (r_then ?_); refine r_ret ?_; exact r_retv2 (Rd.tmp rfl rfl) (congrArg Value.bool (decide_eq_true (⟨by omega, by omega, by omega, by omega, fun j hj => hI0.2 j (by omega), fun j hj => hI1.2 j (by omega), fun j hj => hI2.2 j (by omega), fun j hj => hI3.2 j (by omega)⟩ : GoodD D)).symm) SelMC.sel SubRC.sub
end Go.Proofs.YtpndeonmmcaikaaGreat.DrW

namespace Go.Proofs.YtpndeonmmcaikaaGreat.DrW
open Go.G Foot4 Drain7
set_option maxRecDepth 1000000
attribute [local irreducible] G.ParO G.Fin
theorem pow_bd {k : Nat} (h : k ≤ 20) : 2 ^ k ≤ 1048576 := Nat.le_trans (Nat.pow_le_pow_right (by decide) h) (by decide)
theorem pow_s (k : Nat) : 2 * ((2 ^ k : Nat) : Int) = ((2 ^ (k + 1) : Nat) : Int) := by rw [Nat.pow_succ]; omega
def HasB (set n : Nat) : Prop := set.testBit n = true
instance (a b : Nat) : Decidable (HasB a b) := by unfold HasB; infer_instance
theorem has_div (s n : Nat) : decide ((((s : Int).tdiv ((2 ^ n : Nat) : Int)).tmod 2) = 1) = decide (HasB s n) := by
  have h1 : (s : Int).tdiv ((2 ^ n : Nat) : Int) = ((s / 2 ^ n : Nat) : Int) := (Int.ofNat_tdiv s (2 ^ n)).symm
  have h2 : (((s / 2 ^ n : Nat) : Int).tmod 2) = ((s / 2 ^ n % 2 : Nat) : Int) := (Int.ofNat_tmod (s / 2 ^ n) 2).symm
  rw [h1, h2]
  refine decide_eq_decide.2 ?_
  unfold HasB
  rw [Nat.testBit_eq_decide_div_mod_eq, decide_eq_true_iff]
  omega
set_option maxHeartbeats 4000000 in
theorem pow01_v (n : Nat) (hn : n ≤ 20) : FnV Tryz.prog 93 [i64 n] [] (i64 ((2 ^ n : Nat) : Int)) := by
 refine FnV.intro Tryz.call93 Tryz.func93 rfl Tryz.ntmps93 rfl ?_; intro W M Rf; refine r_seq (r_region ?_); refine q_as rfl rfl rfl rfl rfl ?_; refine o_nil (r_then (r_seq (r_region ?_))); refine q_as rfl rfl rfl rfl rfl ?_; refine o_nil (r_then (r_seq ?_)); refine r_seq (r_region ?_); refine q_as rfl rfl rfl rfl rfl ?_; refine o_nil (r_then ?_); refine r_block ?_; refine r_loop (ι := Nat) (fun k => k ≤ n) (fun k => [(0, i64 n), (3, i64 ((2 ^ k : Nat) : Int)), (4, i64 k)]) (fun k => M) (fun k => Rf) (fun k => n - k) 0 ?_ ?_ ?_
 ·
  exact r_here (by repeat (first | exact FSub.nil | refine FSub.cons rfl ?_)) SelMC.sel SubRC.sub
 ·
  omega
 ·
  rintro k hI0; have hp := pow_bd (show k ≤ 20 by omega); have hp0 : 0 < 2 ^ k := Nat.two_pow_pos k; refine r_seq ?_; refine r_seq (r_region ?_); refine q_mv rfl rfl rfl rfl rfl ?_; refine q_mv rfl rfl rfl rfl rfl ?_; refine o_q _ rfl rfl rfl (v_lss rfl rfl rfl) ?_; refine o_nil (r_then ?_); refine r_condd rfl (fun hc7 => ?_) (fun hc7 => ?_)
  ·
   refine r_skip (r_then ?_); refine r_seq (r_block ?_); refine r_region ?_; refine q_mv rfl rfl rfl rfl rfl ?_; refine o_q _ rfl rfl rfl (v_cast (v := i64 ((2 ^ (k + 1) : Nat) : Int)) (v_mul rfl rfl rfl (by omega)) (congrArg (Value.int .i64) (pow_s k))) ?_; refine q_as rfl rfl rfl rfl rfl ?_; refine o_nil ?_; refine r_in_normal ?_; refine r_then ?_; refine r_region ?_; refine q_mv rfl rfl rfl rfl rfl ?_; refine o_q _ rfl rfl rfl (v_add rfl rfl rfl (by omega)) ?_; refine q_as rfl rfl rfl rfl rfl ?_; refine o_nil (r_then ?_); refine r_next (k + 1) ?_ ?_ ?_
   ·
    exact r_here (by repeat (first | exact FSub.nil | refine FSub.cons rfl ?_)) SelMC.sel SubRC.sub
   ·
    omega
   ·
    omega
  ·
   refine r_exit ?_; refine r_then_exit ?_; refine r_then_exit ?_; refine r_in_here ?_; refine r_then (r_seq ?_); obtain rfl : k = n := by omega
   refine r_region ?_; refine q_mv rfl rfl rfl rfl rfl ?_; refine q_as rfl rfl rfl rfl rfl ?_; refine o_nil (r_then ?_); refine r_ret ?_; exact r_retv2 (Rd.tmp rfl rfl) rfl SelMC.sel SubRC.sub
set_option maxHeartbeats 4000000 in
theorem pow07_v (n : Nat) (hn : n ≤ 20) : FnV Tryz.prog 58 [i64 n] [] (i64 ((2 ^ n : Nat) : Int)) := by
 refine FnV.intro Tryz.call58 Tryz.func58 rfl Tryz.ntmps58 rfl ?_; intro W M Rf; refine r_seq (r_region ?_); refine q_as rfl rfl rfl rfl rfl ?_; refine o_nil (r_then (r_seq (r_region ?_))); refine q_as rfl rfl rfl rfl rfl ?_; refine o_nil (r_then (r_seq ?_)); refine r_seq (r_region ?_); refine q_as rfl rfl rfl rfl rfl ?_; refine o_nil (r_then ?_); refine r_block ?_; refine r_loop (ι := Nat) (fun k => k ≤ n) (fun k => [(0, i64 n), (3, i64 ((2 ^ k : Nat) : Int)), (4, i64 k)]) (fun k => M) (fun k => Rf) (fun k => n - k) 0 ?_ ?_ ?_
 ·
  exact r_here (by repeat (first | exact FSub.nil | refine FSub.cons rfl ?_)) SelMC.sel SubRC.sub
 ·
  omega
 ·
  rintro k hI0; have hp := pow_bd (show k ≤ 20 by omega); have hp0 : 0 < 2 ^ k := Nat.two_pow_pos k; refine r_seq ?_; refine r_seq (r_region ?_); refine q_mv rfl rfl rfl rfl rfl ?_; refine q_mv rfl rfl rfl rfl rfl ?_; refine o_q _ rfl rfl rfl (v_lss rfl rfl rfl) ?_; refine o_nil (r_then ?_); refine r_condd rfl (fun hc7 => ?_) (fun hc7 => ?_)
  ·
   refine r_skip (r_then ?_); refine r_seq (r_block ?_); refine r_region ?_; refine q_mv rfl rfl rfl rfl rfl ?_; refine o_q _ rfl rfl rfl (v_cast (v := i64 ((2 ^ (k + 1) : Nat) : Int)) (v_mul rfl rfl rfl (by omega)) (congrArg (Value.int .i64) (pow_s k))) ?_; refine q_as rfl rfl rfl rfl rfl ?_; refine o_nil ?_; refine r_in_normal ?_; refine r_then ?_; refine r_region ?_; refine q_mv rfl rfl rfl rfl rfl ?_; refine o_q _ rfl rfl rfl (v_add rfl rfl rfl (by omega)) ?_; refine q_as rfl rfl rfl rfl rfl ?_; refine o_nil (r_then ?_); refine r_next (k + 1) ?_ ?_ ?_
   ·
    exact r_here (by repeat (first | exact FSub.nil | refine FSub.cons rfl ?_)) SelMC.sel SubRC.sub
   ·
    omega
   ·
    omega
  ·
   refine r_exit ?_; refine r_then_exit ?_; refine r_then_exit ?_; refine r_in_here ?_; refine r_then (r_seq ?_); obtain rfl : k = n := by omega
   refine r_region ?_; refine q_mv rfl rfl rfl rfl rfl ?_; refine q_as rfl rfl rfl rfl rfl ?_; refine o_nil (r_then ?_); refine r_ret ?_; exact r_retv2 (Rd.tmp rfl rfl) rfl SelMC.sel SubRC.sub
set_option maxHeartbeats 4000000 in
theorem has01_v (s n : Nat) (hs : s ≤ 1048576) (hn : n ≤ 20) : FnV Tryz.prog 166 [i64 s, i64 n] [] (.bool (decide (HasB s n))) := by
 refine FnV.intro Tryz.call166 Tryz.func166 rfl Tryz.ntmps166 rfl ?_; intro W M Rf; refine r_seq (r_region ?_); refine q_as rfl rfl rfl rfl rfl ?_; refine o_nil (r_then (r_seq ?_)); have hp := pow_bd hn; have hp0 : 0 < 2 ^ n := Nat.two_pow_pos n; refine r_region ?_; refine q_mv rfl rfl rfl rfl rfl ?_; refine q_mv rfl rfl rfl rfl rfl ?_; refine o_q _ rfl rfl rfl (OpQ.fn (pow01_v _ (by omega)) rfl rfl SubRC.sub) ?_; refine o_q _ rfl rfl rfl (v_quo rfl rfl rfl (by omega) (by have h1 : (s : Int).tdiv ((2 ^ n : Nat) : Int) = ((s / 2 ^ n : Nat) : Int) := (Int.ofNat_tdiv s (2 ^ n)).symm; rw [h1]; have h2 : s / 2 ^ n ≤ s := Nat.div_le_self s (2 ^ n); generalize s / 2 ^ n = q at *; omega)) ?_; refine o_q _ rfl rfl rfl (v_rem rfl rfl rfl (by decide)) ?_; refine o_q _ rfl rfl rfl (v_cast (v := .bool (decide (HasB s n))) (v_eql rfl rfl rfl) (congrArg Value.bool (has_div s n))) ?_; refine q_as rfl rfl rfl rfl rfl ?_; refine o_nil (r_then ?_); refine r_ret ?_; exact r_retv2 (Rd.tmp rfl rfl) rfl SelMC.sel SubRC.sub
set_option maxHeartbeats 4000000 in
theorem has07_v (s n : Nat) (hs : s ≤ 1048576) (hn : n ≤ 20) : FnV Tryz.prog 116 [i64 s, i64 n] [] (.bool (decide (HasB s n))) := by
 refine FnV.intro Tryz.call116 Tryz.func116 rfl Tryz.ntmps116 rfl ?_; intro W M Rf; refine r_seq (r_region ?_); refine q_as rfl rfl rfl rfl rfl ?_; refine o_nil (r_then (r_seq ?_)); have hp := pow_bd hn; have hp0 : 0 < 2 ^ n := Nat.two_pow_pos n; refine r_region ?_; refine q_mv rfl rfl rfl rfl rfl ?_; refine q_mv rfl rfl rfl rfl rfl ?_; refine o_q _ rfl rfl rfl (OpQ.fn (pow07_v _ (by omega)) rfl rfl SubRC.sub) ?_; refine o_q _ rfl rfl rfl (v_quo rfl rfl rfl (by omega) (by have h1 : (s : Int).tdiv ((2 ^ n : Nat) : Int) = ((s / 2 ^ n : Nat) : Int) := (Int.ofNat_tdiv s (2 ^ n)).symm; rw [h1]; have h2 : s / 2 ^ n ≤ s := Nat.div_le_self s (2 ^ n); generalize s / 2 ^ n = q at *; omega)) ?_; refine o_q _ rfl rfl rfl (v_rem rfl rfl rfl (by decide)) ?_; refine o_q _ rfl rfl rfl (v_cast (v := .bool (decide (HasB s n))) (v_eql rfl rfl rfl) (congrArg Value.bool (has_div s n))) ?_; refine q_as rfl rfl rfl rfl rfl ?_; refine o_nil (r_then ?_); refine r_ret ?_; exact r_retv2 (Rd.tmp rfl rfl) rfl SelMC.sel SubRC.sub
end Go.Proofs.YtpndeonmmcaikaaGreat.DrW

namespace Go.Proofs.YtpndeonmmcaikaaGreat.DrW
open Go.G Foot4 Drain7
set_option maxRecDepth 1000000
attribute [local irreducible] G.ParO G.Fin
structure Lin where
  f : List Int
  t : List Int
def ofTo (B : Bk) (x : Lin) (n : Int) : Nat → Int
  | 0 => B.holders
  | k + 1 => if x.f.getD k 0 ≤ n ∧ n < x.t.getD k 0 then (B.leases.getD k default).holder else ofTo B x n k
theorem ofTo_y {B : Bk} {x : Lin} {n : Int} {k : Nat} (h : x.f.getD k 0 ≤ n ∧ n < x.t.getD k 0) : ofTo B x n (k + 1) = (B.leases.getD k default).holder := if_pos h
theorem ofTo_n {B : Bk} {x : Lin} {n : Int} {k : Nat} (h : ¬ (x.f.getD k 0 ≤ n ∧ n < x.t.getD k 0)) : ofTo B x n (k + 1) = ofTo B x n k := if_neg h
abbrev ofX (B : Bk) (x : Lin) (n : Int) : Int := ofTo B x n B.leases.length
@[reducible] def valX (x : Lin) (fo to_ : Option Addr) (fc tc : Nat) : Value := .agg #[.slice fo x.f.length fc, .slice to_ x.t.length tc]
variable (B : Bk) (lo mo : Option Addr) (lc mc : Nat) (x : Lin) (fo to_ : Option Addr) (fc tc : Nat)
set_option maxHeartbeats 4000000 in
theorem of01_v (hg : GoodK B) (hf : x.f.length = B.leases.length) (ht : x.t.length = B.leases.length) (n : Int) : FnV Tryz.prog 15 [valK B lo mo lc mc, valX x fo to_ fc tc, i64 n] [rowD lo 5 encLe B.leases, rowD mo 2 encMk B.marks, rowD fo 1 encI x.f, rowD to_ 1 encI x.t] (i64 (ofX B x n)) := by
 refine FnV.intro Tryz.call15 Tryz.func15 rfl Tryz.ntmps15 rfl ?_; intro W M Rf; refine r_seq (r_region ?_); refine o_boxA rfl rfl rfl rfl rfl (fun b3 => ?_); refine o_boxA rfl rfl rfl rfl rfl (fun b4 => ?_); refine q_as rfl rfl rfl rfl rfl ?_; refine o_nil (r_then (r_seq ?_)); have hg3 := hg.2.2.1; refine r_region ?_; refine o_q _ rfl rfl rfl (v_fieldAddr rfl Tryz.underlying25 inf3 rfl rfl rfl rfl) ?_; refine o_q _ rfl rfl rfl (v_ld1 rfl Tryz.underlying3 rfl rfl rfl) ?_; refine q_as rfl rfl rfl rfl rfl ?_; refine o_nil (r_then (r_seq ?_)); refine r_seq (r_region ?_); refine q_as rfl rfl rfl rfl rfl ?_; refine o_nil (r_then ?_); refine r_block ?_; refine r_loop (ι := Nat) (fun k => k ≤ B.leases.length) (fun k => [(2, i64 n), (3, pt b3 0), (4, pt b4 0), (7, i64 (ofTo B x n k)), (8, i64 k)]) (fun k => bx b3 25 (cellsK B lo mo lc mc) :: bx b4 41 [.slice fo x.f.length fc, .slice to_ x.t.length tc] :: M) (fun k => [rowD lo 5 encLe B.leases, rowD mo 2 encMk B.marks, rowD fo 1 encI x.f, rowD to_ 1 encI x.t] ++ Rf) (fun k => B.leases.length - k) 0 ?_ ?_ ?_
 ·
  exact r_here (by repeat (first | exact FSub.nil | refine FSub.cons rfl ?_)) SelMC.sel SubRC.sub
 ·
  omega
 ·
  rintro k hI0; refine r_seq ?_; refine r_seq (r_region ?_); refine q_mv rfl rfl rfl rfl rfl ?_; refine o_q _ rfl rfl rfl (v_fieldAddr rfl Tryz.underlying25 inf22 rfl rfl rfl rfl) ?_; refine o_q _ rfl rfl rfl (v_ld1 rfl Tryz.underlying22 rfl rfl rfl) ?_; refine o_q _ rfl rfl rfl (v_len rfl rfl Tryz.underlying22 rfl) ?_; refine o_q _ rfl rfl rfl (v_lss rfl rfl rfl) ?_; refine o_nil (r_then ?_); refine r_condd rfl (fun hc15 => ?_) (fun hc15 => ?_)
  ·
   refine r_skip (r_then ?_); refine r_seq (r_block ?_); refine r_seq (r_region ?_); refine o_q _ rfl rfl rfl (v_fieldAddr rfl Tryz.underlying41 inf39 rfl rfl rfl rfl) ?_; refine o_q _ rfl rfl rfl (v_ld1 rfl Tryz.underlying39 rfl rfl rfl) ?_; refine q_mv rfl rfl rfl rfl rfl ?_; refine o_q _ rfl rfl rfl (v_indexAddrSn rfl Tryz.underlying39 inf3 rfl rfl rfl (by omega) rfl) ?_; refine o_q _ rfl rfl rfl (v_cast (v := i64 (x.f.getD k 0)) (v_loadE1 rfl Tryz.underlying3 rfl rfl (by omega) rfl rfl) rfl) ?_; refine q_mv rfl rfl rfl rfl rfl ?_; refine o_test rfl rfl rfl (v_leq rfl rfl rfl) (fun h24 => ?_) (fun h24 => ?_)
   all_goals
    refine q_mv rfl rfl rfl rfl rfl ?_
    first | refine o_gn rfl rfl rfl rfl ?_ | refine o_g _ rfl rfl rfl rfl (v_move rfl rfl) ?_
    first | refine o_gn rfl rfl rfl rfl ?_ | refine o_g _ rfl rfl rfl rfl (v_fieldAddr rfl Tryz.underlying41 inf39 rfl rfl rfl rfl) ?_
    first | refine o_gn rfl rfl rfl rfl ?_ | refine o_g _ rfl rfl rfl rfl (v_ld1 rfl Tryz.underlying39 rfl rfl rfl) ?_
    first | refine o_gn rfl rfl rfl rfl ?_ | refine o_g _ rfl rfl rfl rfl (v_move rfl rfl) ?_
    first | refine o_gn rfl rfl rfl rfl ?_ | refine o_g _ rfl rfl rfl rfl (v_indexAddrSn rfl Tryz.underlying39 inf3 rfl rfl rfl (by omega) rfl) ?_
    first | refine o_gn rfl rfl rfl rfl ?_ | refine o_g _ rfl rfl rfl rfl (v_cast (v := i64 (x.t.getD k 0)) (v_loadE1 rfl Tryz.underlying3 rfl rfl (by omega) rfl rfl) rfl) ?_
    first | refine o_gn rfl rfl rfl rfl ?_ | refine o_gtest rfl rfl rfl rfl (v_lss rfl rfl rfl) (fun h32 => ?_) (fun h32 => ?_)
    all_goals
     first | refine o_q _ rfl rfl rfl (v_pick_t rfl rfl rfl) ?_ | refine o_q _ rfl rfl rfl (v_pick_f rfl rfl rfl) ?_
     refine o_nil (r_then ?_); refine r_cond rfl (fun hc33 => ?_) (fun hc33 => ?_)
     ·
      first
      | (exfalso; revert hc33; decide)
      |
       skip
       refine r_region ?_; refine o_q _ rfl rfl rfl (v_fieldAddr rfl Tryz.underlying25 inf22 rfl rfl rfl rfl) ?_; refine o_q _ rfl rfl rfl (v_ld1 rfl Tryz.underlying22 rfl rfl rfl) ?_; refine q_mv rfl rfl rfl rfl rfl ?_; refine o_q _ rfl rfl rfl (v_indexAddrSn rfl Tryz.underlying22 inf84 rfl rfl rfl (by omega) rfl) ?_; refine o_q _ rfl rfl rfl (v_fieldAddr rfl Tryz.underlying84 inf3 rfl rfl rfl rfl) ?_; refine o_q _ rfl rfl rfl (v_loadE1 rfl Tryz.underlying3 rfl rfl (by omega) rfl rfl) ?_; refine q_as rfl rfl rfl rfl rfl ?_; refine o_nil ?_; refine r_in_normal ?_; refine r_then ?_; refine r_region ?_; refine q_mv rfl rfl rfl rfl rfl ?_; refine o_q _ rfl rfl rfl (v_add rfl rfl rfl (by omega)) ?_; refine q_as rfl rfl rfl rfl rfl ?_; refine o_nil (r_then ?_); refine r_next (k + 1) ?_ ?_ ?_
       ·
        (rw [ofTo_y (by omega)]; exact r_here (by repeat (first | exact FSub.nil | refine FSub.cons rfl ?_)) SelMC.sel SubRC.sub)
       ·
        omega
       ·
        omega
     ·
      first
      | (exfalso; revert hc33; decide)
      |
       skip
       refine r_skip ?_; refine r_in_normal ?_; refine r_then ?_; refine r_region ?_; refine q_mv rfl rfl rfl rfl rfl ?_; refine o_q _ rfl rfl rfl (v_add rfl rfl rfl (by omega)) ?_; refine q_as rfl rfl rfl rfl rfl ?_; refine o_nil (r_then ?_); refine r_next (k + 1) ?_ ?_ ?_
       ·
        (rw [ofTo_n (by omega)]; exact r_here (by repeat (first | exact FSub.nil | refine FSub.cons rfl ?_)) SelMC.sel SubRC.sub)
       ·
        omega
       ·
        omega
  ·
   refine r_exit ?_; refine r_then_exit ?_; refine r_then_exit ?_; refine r_in_here ?_; refine r_then (r_seq ?_); obtain rfl : k = B.leases.length := by omega
   refine r_region ?_; refine q_mv rfl rfl rfl rfl rfl ?_; refine q_as rfl rfl rfl rfl rfl ?_; refine o_nil (r_then ?_); refine r_ret ?_; exact r_retv2 (Rd.tmp rfl rfl) rfl SelMC.sel SubRC.sub
end Go.Proofs.YtpndeonmmcaikaaGreat.DrW

namespace Go.Proofs.YtpndeonmmcaikaaGreat.DrW
open Go.G Foot4 Drain7
set_option maxRecDepth 1000000
attribute [local irreducible] G.ParO G.Fin
def RightX (B : Bk) (x : Lin) (s : Nat) : Prop := ∀ k, k < B.marks.length → HasB s k → ofX B x (B.marks.getD k default).perch = (B.marks.getD k default).holder
instance (B : Bk) (x : Lin) (s : Nat) : Decidable (RightX B x s) := by unfold RightX; infer_instance
variable (B : Bk) (lo mo : Option Addr) (lc mc : Nat) (x : Lin) (fo to_ : Option Addr) (fc tc : Nat)
set_option maxHeartbeats 4000000 in
theorem right01_v (hg : GoodK B) (hf : x.f.length = B.leases.length) (ht : x.t.length = B.leases.length) (s : Nat) (hs : s ≤ 1048576) : FnV Tryz.prog 142 [valK B lo mo lc mc, valX x fo to_ fc tc, i64 s] [rowD lo 5 encLe B.leases, rowD mo 2 encMk B.marks, rowD fo 1 encI x.f, rowD to_ 1 encI x.t] (.bool (decide (RightX B x s))) := by
 refine FnV.intro Tryz.call142 Tryz.func142 rfl Tryz.ntmps142 rfl ?_; intro W M Rf; refine r_seq (r_region ?_); refine o_boxA rfl rfl rfl rfl rfl (fun b3 => ?_); refine o_boxA rfl rfl rfl rfl rfl (fun b4 => ?_); refine q_as rfl rfl rfl rfl rfl ?_; refine o_nil (r_then (r_seq ?_)); refine r_seq ?_; have hg3 := hg.2.2.2.1; refine r_region ?_; refine q_as rfl rfl rfl rfl rfl ?_; refine o_nil (r_then ?_); refine r_block ?_; refine r_loop (ι := Nat) (fun k => k ≤ B.marks.length ∧ ∀ j, j < k → HasB s j → ofX B x (B.marks.getD j default).perch = (B.marks.getD j default).holder) (fun k => [(2, i64 s), (3, pt b3 0), (4, pt b4 0), (7, i64 k)]) (fun k => bx b3 25 (cellsK B lo mo lc mc) :: bx b4 41 [.slice fo x.f.length fc, .slice to_ x.t.length tc] :: M) (fun k => [rowD lo 5 encLe B.leases, rowD mo 2 encMk B.marks, rowD fo 1 encI x.f, rowD to_ 1 encI x.t] ++ Rf) (fun k => B.marks.length - k) 0 ?_ ?_ ?_
 ·
  exact r_here (by repeat (first | exact FSub.nil | refine FSub.cons rfl ?_)) SelMC.sel SubRC.sub
 ·
  exact ⟨Nat.zero_le _, fun j hj => absurd hj (by omega)⟩
 ·
  rintro k hI0; refine r_seq ?_; refine r_seq (r_region ?_); refine q_mv rfl rfl rfl rfl rfl ?_; refine o_q _ rfl rfl rfl (v_fieldAddr rfl Tryz.underlying25 inf23 rfl rfl rfl rfl) ?_; refine o_q _ rfl rfl rfl (v_ld1 rfl Tryz.underlying23 rfl rfl rfl) ?_; refine o_q _ rfl rfl rfl (v_len rfl rfl Tryz.underlying23 rfl) ?_; refine o_q _ rfl rfl rfl (v_lss rfl rfl rfl) ?_; refine o_nil (r_then ?_); refine r_condd rfl (fun hc12 => ?_) (fun hc12 => ?_)
  ·
   refine r_skip (r_then ?_); refine r_seq (r_block ?_); refine r_seq ?_; refine r_region_q mixed (by kernel_rfl) ?_; refine q_q _ rfl rfl rfl (v_move rfl rfl) ?_; refine q_q _ rfl rfl rfl (v_move rfl rfl) ?_; refine q_test rfl rfl rfl (OpQ.fn (has01_v _ _ (by omega) (by omega)) rfl rfl SubRC.sub) (fun h17 => ?_) (fun h17 => ?_)
   all_goals
    refine q_q _ rfl rfl rfl (v_move rfl rfl) ?_
    first | refine q_gn rfl rfl rfl rfl ?_ | refine q_g _ rfl rfl rfl rfl (v_ldW rfl Tryz.underlying25 rfl inf25 rfl rfl) ?_
    first | refine q_gn rfl rfl rfl rfl ?_ | refine q_g _ rfl rfl rfl rfl (v_ldW rfl Tryz.underlying41 rfl inf41 rfl rfl) ?_
    first | refine q_gn rfl rfl rfl rfl ?_ | refine q_g _ rfl rfl rfl rfl (v_fieldAddr rfl Tryz.underlying25 inf23 rfl rfl rfl rfl) ?_
    first | refine q_gn rfl rfl rfl rfl ?_ | refine q_g _ rfl rfl rfl rfl (v_ld1 rfl Tryz.underlying23 rfl rfl rfl) ?_
    first | refine q_gn rfl rfl rfl rfl ?_ | refine q_g _ rfl rfl rfl rfl (v_move rfl rfl) ?_
    first | refine q_gn rfl rfl rfl rfl ?_ | refine q_g _ rfl rfl rfl rfl (v_indexAddrSn rfl Tryz.underlying23 inf88 rfl rfl rfl (by omega) rfl) ?_
    first | refine q_gn rfl rfl rfl rfl ?_ | refine q_g _ rfl rfl rfl rfl (v_fieldAddr rfl Tryz.underlying88 inf3 rfl rfl rfl rfl) ?_
    first | refine q_gn rfl rfl rfl rfl ?_ | refine q_g _ rfl rfl rfl rfl (v_loadE1 rfl Tryz.underlying3 rfl rfl (by omega) rfl rfl) ?_
    first | refine q_gn rfl rfl rfl rfl ?_ | refine q_g _ rfl rfl rfl rfl (OpQ.fn (of01_v B lo mo lc mc x fo to_ fc tc hg hf ht _) rfl rfl SubRC.sub) ?_
    first | refine q_gn rfl rfl rfl rfl ?_ | refine q_g _ rfl rfl rfl rfl (v_fieldAddr rfl Tryz.underlying25 inf23 rfl rfl rfl rfl) ?_
    first | refine q_gn rfl rfl rfl rfl ?_ | refine q_g _ rfl rfl rfl rfl (v_ld1 rfl Tryz.underlying23 rfl rfl rfl) ?_
    first | refine q_gn rfl rfl rfl rfl ?_ | refine q_g _ rfl rfl rfl rfl (v_move rfl rfl) ?_
    first | refine q_gn rfl rfl rfl rfl ?_ | refine q_g _ rfl rfl rfl rfl (v_indexAddrSn rfl Tryz.underlying23 inf88 rfl rfl rfl (by omega) rfl) ?_
    first | refine q_gn rfl rfl rfl rfl ?_ | refine q_g _ rfl rfl rfl rfl (v_fieldAddr rfl Tryz.underlying88 inf3 rfl rfl rfl rfl) ?_
    first | refine q_gn rfl rfl rfl rfl ?_ | refine q_g _ rfl rfl rfl rfl (v_loadE1 rfl Tryz.underlying3 rfl rfl (by omega) rfl rfl) ?_
    first | refine q_gn rfl rfl rfl rfl ?_ | refine q_gtest rfl rfl rfl rfl (v_neq rfl rfl rfl) (fun h34 => ?_) (fun h34 => ?_)
    all_goals
     first | refine q_q _ rfl rfl rfl (v_pick_t rfl rfl rfl) ?_ | refine q_q _ rfl rfl rfl (v_pick_f rfl rfl rfl) ?_
     refine q_nil ?_; refine r_then ?_; refine r_cond rfl (fun hc35 => ?_) (fun hc35 => ?_)
     ·
      first
      | (exfalso; revert hc35; decide)
      |
       skip
       refine r_seq (r_region ?_); refine q_as rfl rfl rfl rfl rfl ?_; refine o_nil (r_then ?_); refine r_ret ?_; (with_reducible refine r_in_ret ?_; refine r_then_ret ?_; refine r_then_ret ?_; refine r_in_ret ?_; refine r_then_ret ?_); exact r_retv2 (Rd.tmp rfl rfl) (congrArg Value.bool (decide_eq_false (fun h : RightX B x s => by have h9 := h k (by omega) (by assumption); omega)).symm) SelMC.sel SubRC.sub
     ·
      first
      | (exfalso; revert hc35; decide)
      |
       skip
       refine r_skip ?_; refine r_in_normal ?_; refine r_then ?_; refine r_region ?_; refine q_mv rfl rfl rfl rfl rfl ?_; refine o_q _ rfl rfl rfl (v_add rfl rfl rfl (by omega)) ?_; refine q_as rfl rfl rfl rfl rfl ?_; refine o_nil (r_then ?_); refine r_next (k + 1) ?_ ?_ ?_
       ·
        exact r_here (by repeat (first | exact FSub.nil | refine FSub.cons rfl ?_)) SelMC.sel SubRC.sub
       ·
        first
        | exact ⟨by omega, Foot4.all_step hI0.2 (fun _ => by omega)⟩
        | exact ⟨by omega, Foot4.all_step hI0.2 (fun h => absurd h (by assumption))⟩
       ·
        omega
  ·
   refine r_exit ?_; refine r_then_exit ?_; refine r_then_exit ?_; refine r_in_here ?_; refine r_then (r_seq (r_region ?_)); refine q_as rfl rfl rfl rfl rfl ?_; refine o_nil (r_then ?_); refine r_ret ?_; exact r_retv2 (Rd.tmp rfl rfl) (congrArg Value.bool (decide_eq_true (fun j hj => hI0.2 j (by omega) : RightX B x s)).symm) SelMC.sel SubRC.sub
set_option maxHeartbeats 4000000 in
theorem every01_v (hg : GoodK B) : FnV Tryz.prog 37 [valK B lo mo lc mc] [] (i64 ((2 ^ B.marks.length - 1 : Nat) : Int)) := by
 refine FnV.intro Tryz.call37 Tryz.func37 rfl Tryz.ntmps37 rfl ?_; intro W M Rf; refine r_seq (r_region ?_); refine o_boxA rfl rfl rfl rfl rfl (fun b1 => ?_); refine q_as rfl rfl rfl rfl rfl ?_; refine o_nil (r_then (r_seq ?_)); have hg3 := hg.2.2.2.1; have hp0 : 0 < 2 ^ B.marks.length := Nat.two_pow_pos _; have hpb := pow_bd (show B.marks.length ≤ 20 by omega); refine r_region ?_; refine o_q _ rfl rfl rfl (v_fieldAddr rfl Tryz.underlying25 inf23 rfl rfl rfl rfl) ?_; refine o_q _ rfl rfl rfl (v_ld1 rfl Tryz.underlying23 rfl rfl rfl) ?_; refine o_q _ rfl rfl rfl (v_len rfl rfl Tryz.underlying23 rfl) ?_; refine o_q _ rfl rfl rfl (OpQ.fn (pow01_v _ (by omega)) rfl rfl SubRC.sub) ?_; refine o_q _ rfl rfl rfl (v_cast (v := i64 ((2 ^ B.marks.length - 1 : Nat) : Int)) (v_sub rfl rfl rfl (by omega)) (congrArg (Value.int .i64) (by omega))) ?_; refine q_as rfl rfl rfl rfl rfl ?_; refine o_nil (r_then ?_); refine r_ret ?_; exact r_retv2 (Rd.tmp rfl rfl) rfl SelMC.sel SubRC.sub
end Go.Proofs.YtpndeonmmcaikaaGreat.DrW

namespace Go.Proofs.YtpndeonmmcaikaaGreat.DrW
open Go.G Foot4 Drain7
set_option maxRecDepth 1000000
attribute [local irreducible] G.ParO G.Fin
def JoinW (w : DWay) (a b : Int) : Prop := (w.a = a ∧ w.b = b) ∨ (w.a = b ∧ w.b = a)
instance (w : DWay) (a b : Int) : Decidable (JoinW w a b) := by unfold JoinW; infer_instance
def JoinD (D : Dr) (s : Nat) (a b : Int) : Prop := ∃ k, k < D.ways.length ∧ HasB s k ∧ JoinW (D.ways.getD k default) a b
instance (D : Dr) (s : Nat) (a b : Int) : Decidable (JoinD D s a b) := by unfold JoinD; infer_instance
variable (D : Dr) (bo wo ro so : Option Addr) (bc wc rc sc : Nat)
set_option maxHeartbeats 4000000 in
theorem joined07_v (hg : GoodD D) (s : Nat) (hs : s ≤ 1048576) (a b : Int) : FnV Tryz.prog 59 [valD D bo wo ro so bc wc rc sc, i64 s, i64 a, i64 b] [rowD wo 2 encDW D.ways] (.bool (decide (JoinD D s a b))) := by
 refine FnV.intro Tryz.call59 Tryz.func59 rfl Tryz.ntmps59 rfl ?_; intro W M Rf; refine r_seq (r_region ?_); refine o_boxA rfl rfl rfl rfl rfl (fun b4 => ?_); refine q_as rfl rfl rfl rfl rfl ?_; refine o_nil (r_then (r_seq ?_)); refine r_seq ?_; have hg3 := hg.2.1; refine r_region ?_; refine q_as rfl rfl rfl rfl rfl ?_; refine o_nil (r_then ?_); refine r_block ?_; refine r_loop (ι := Nat) (fun k => k ≤ D.ways.length ∧ ∀ j, j < k → ¬ (HasB s j ∧ JoinW (D.ways.getD j default) a b)) (fun k => [(1, i64 s), (2, i64 a), (3, i64 b), (4, pt b4 0), (9, i64 k)]) (fun k => bx b4 30 (cellsD D bo wo ro so bc wc rc sc) :: M) (fun k => [rowD wo 2 encDW D.ways] ++ Rf) (fun k => D.ways.length - k) 0 ?_ ?_ ?_
 ·
  exact r_here (by repeat (first | exact FSub.nil | refine FSub.cons rfl ?_)) SelMC.sel SubRC.sub
 ·
  exact ⟨Nat.zero_le _, fun j hj => absurd hj (by omega)⟩
 ·
  rintro k hI0; refine r_seq ?_; refine r_seq (r_region ?_); refine q_mv rfl rfl rfl rfl rfl ?_; refine o_q _ rfl rfl rfl (v_fieldAddr rfl Tryz.underlying30 inf27 rfl rfl rfl rfl) ?_; refine o_q _ rfl rfl rfl (v_ld1 rfl Tryz.underlying27 rfl rfl rfl) ?_; refine o_q _ rfl rfl rfl (v_len rfl rfl Tryz.underlying27 rfl) ?_; refine o_q _ rfl rfl rfl (v_lss rfl rfl rfl) ?_; refine o_nil (r_then ?_); refine r_condd rfl (fun hc15 => ?_) (fun hc15 => ?_)
  ·
   refine r_skip (r_then ?_); refine r_seq (r_block ?_); refine r_seq (r_region ?_); refine o_q _ rfl rfl rfl (v_fieldAddr rfl Tryz.underlying30 inf27 rfl rfl rfl rfl) ?_; refine o_q _ rfl rfl rfl (v_ld1 rfl Tryz.underlying27 rfl rfl rfl) ?_; refine q_mv rfl rfl rfl rfl rfl ?_; refine o_q _ rfl rfl rfl (v_indexAddrSn rfl Tryz.underlying27 inf92 rfl rfl rfl (by omega) rfl) ?_; refine o_q _ rfl rfl rfl (v_cast (v := .agg #[i64 (D.ways.getD k default).a, i64 (D.ways.getD k default).b]) (v_loadEN rfl Tryz.underlying92 rfl inf92 rfl (by omega) rfl rfl rfl) rfl) ?_; refine o_alloc rfl inf92 rfl rfl rfl rfl rfl (fun b10 => ?_); refine o_st rfl inf92 rfl rfl rfl rfl rfl rfl rfl rfl ?_; refine o_nil (r_then (r_seq (r_region ?_))); refine q_mv rfl rfl rfl rfl rfl ?_; refine q_mv rfl rfl rfl rfl rfl ?_; refine o_test rfl rfl rfl (OpQ.fn (has07_v _ _ (by omega) (by omega)) rfl rfl SubRC.sub) (fun h25 => ?_) (fun h25 => ?_)
   all_goals
    refine q_mv rfl rfl rfl rfl rfl ?_
    first | refine o_gn rfl rfl rfl rfl ?_ | refine o_g _ rfl rfl rfl rfl (v_fieldAddr rfl Tryz.underlying92 inf3 rfl rfl rfl rfl) ?_
    first | refine o_gn rfl rfl rfl rfl ?_ | refine o_g _ rfl rfl rfl rfl (v_ld1 rfl Tryz.underlying3 rfl rfl rfl) ?_
    first | refine o_gn rfl rfl rfl rfl ?_ | refine o_g _ rfl rfl rfl rfl (v_move rfl rfl) ?_
    first | refine o_gn rfl rfl rfl rfl ?_ | refine o_gtest rfl rfl rfl rfl (v_eql rfl rfl rfl) (fun h30 => ?_) (fun h30 => ?_)
    all_goals
     first | refine o_gn rfl rfl rfl rfl ?_ | refine o_g _ rfl rfl rfl rfl (v_move rfl rfl) ?_
     first | refine o_gn rfl rfl rfl rfl ?_ | refine o_g _ rfl rfl rfl rfl (v_fieldAddr rfl Tryz.underlying92 inf3 rfl rfl rfl rfl) ?_
     first | refine o_gn rfl rfl rfl rfl ?_ | refine o_g _ rfl rfl rfl rfl (v_ld1 rfl Tryz.underlying3 rfl rfl rfl) ?_
     first | refine o_gn rfl rfl rfl rfl ?_ | refine o_g _ rfl rfl rfl rfl (v_move rfl rfl) ?_
     first | refine o_gn rfl rfl rfl rfl ?_ | refine o_gtest rfl rfl rfl rfl (v_eql rfl rfl rfl) (fun h35 => ?_) (fun h35 => ?_)
     all_goals
      first | refine o_gn rfl rfl rfl rfl ?_ | refine o_g _ rfl rfl rfl rfl (v_pick_t rfl rfl rfl) ?_ | refine o_g _ rfl rfl rfl rfl (v_pick_f rfl rfl rfl) ?_
      first | refine o_gn rfl rfl rfl rfl ?_ | refine o_g _ rfl rfl rfl rfl (v_move rfl rfl) ?_
      first | refine o_gn rfl rfl rfl rfl ?_ | refine o_g _ rfl rfl rfl rfl (v_fieldAddr rfl Tryz.underlying92 inf3 rfl rfl rfl rfl) ?_
      first | refine o_gn rfl rfl rfl rfl ?_ | refine o_g _ rfl rfl rfl rfl (v_ld1 rfl Tryz.underlying3 rfl rfl rfl) ?_
      first | refine o_gn rfl rfl rfl rfl ?_ | refine o_g _ rfl rfl rfl rfl (v_move rfl rfl) ?_
      first | refine o_gn rfl rfl rfl rfl ?_ | refine o_gtest rfl rfl rfl rfl (v_eql rfl rfl rfl) (fun h41 => ?_) (fun h41 => ?_)
      all_goals
       first | refine o_gn rfl rfl rfl rfl ?_ | refine o_g _ rfl rfl rfl rfl (v_move rfl rfl) ?_
       first | refine o_gn rfl rfl rfl rfl ?_ | refine o_g _ rfl rfl rfl rfl (v_fieldAddr rfl Tryz.underlying92 inf3 rfl rfl rfl rfl) ?_
       first | refine o_gn rfl rfl rfl rfl ?_ | refine o_g _ rfl rfl rfl rfl (v_ld1 rfl Tryz.underlying3 rfl rfl rfl) ?_
       first | refine o_gn rfl rfl rfl rfl ?_ | refine o_g _ rfl rfl rfl rfl (v_move rfl rfl) ?_
       first | refine o_gn rfl rfl rfl rfl ?_ | refine o_g _ rfl rfl rfl rfl (v_false (v_eql rfl rfl rfl) (by omega)) ?_ | refine o_gtest rfl rfl rfl rfl (v_eql rfl rfl rfl) (fun h46 => ?_) (fun h46 => ?_)
       all_goals
        first | refine o_gn rfl rfl rfl rfl ?_ | refine o_g _ rfl rfl rfl rfl (v_pick_t rfl rfl rfl) ?_ | refine o_g _ rfl rfl rfl rfl (v_pick_f rfl rfl rfl) ?_
        first | refine o_gn rfl rfl rfl rfl ?_ | refine o_g _ rfl rfl rfl rfl (v_pick_t rfl rfl rfl) ?_ | refine o_g _ rfl rfl rfl rfl (v_pick_f rfl rfl rfl) ?_
        first | refine o_q _ rfl rfl rfl (v_pick_t rfl rfl rfl) ?_ | refine o_q _ rfl rfl rfl (v_pick_f rfl rfl rfl) ?_
        refine o_nil (r_then ?_); refine r_cond rfl (fun hc49 => ?_) (fun hc49 => ?_)
        ·
         first
         | (exfalso; revert hc49; decide)
         |
          skip
          refine r_seq (r_region ?_); refine q_as rfl rfl rfl rfl rfl ?_; refine o_nil (r_then ?_); refine r_ret ?_; (with_reducible refine r_in_ret ?_; refine r_then_ret ?_; refine r_then_ret ?_; refine r_in_ret ?_; refine r_then_ret ?_); exact r_retv2 (Rd.tmp rfl rfl) (congrArg Value.bool (decide_eq_true (⟨k, by omega, by assumption, by unfold JoinW; omega⟩ : JoinD D s a b)).symm) SelMC.sel SubRC.sub
        ·
         first
         | (exfalso; revert hc49; decide)
         |
          skip
          refine r_skip ?_; refine r_in_normal ?_; refine r_then ?_; refine r_region ?_; refine q_mv rfl rfl rfl rfl rfl ?_; refine o_q _ rfl rfl rfl (v_add rfl rfl rfl (by omega)) ?_; refine q_as rfl rfl rfl rfl rfl ?_; refine o_nil (r_then ?_); refine r_next (k + 1) ?_ ?_ ?_
          ·
           exact r_here (by repeat (first | exact FSub.nil | refine FSub.cons rfl ?_)) SelMC.sel SubRC.sub
          ·
           first
           | exact ⟨by omega, Foot4.all_step hI0.2 (fun h => absurd h.1 (by assumption))⟩
           | exact ⟨by omega, Foot4.all_step hI0.2 (fun h => by have h9 := h.2; unfold JoinW at h9; omega)⟩
          ·
           omega
  ·
   refine r_exit ?_; refine r_then_exit ?_; refine r_then_exit ?_; refine r_in_here ?_; refine r_then (r_seq (r_region ?_)); refine q_as rfl rfl rfl rfl rfl ?_; refine o_nil (r_then ?_); refine r_ret ?_; exact r_retv2 (Rd.tmp rfl rfl) (congrArg Value.bool (decide_eq_false (fun h : JoinD D s a b => by obtain ⟨j, h1, h2⟩ := h; exact hI0.2 j (by omega) h2)).symm) SelMC.sel SubRC.sub
set_option maxHeartbeats 4000000 in
theorem every07_v (hg : GoodD D) : FnV Tryz.prog 13 [valD D bo wo ro so bc wc rc sc] [] (i64 ((2 ^ D.ways.length - 1 : Nat) : Int)) := by
 refine FnV.intro Tryz.call13 Tryz.func13 rfl Tryz.ntmps13 rfl ?_; intro W M Rf; refine r_seq (r_region ?_); refine o_boxA rfl rfl rfl rfl rfl (fun b1 => ?_); refine q_as rfl rfl rfl rfl rfl ?_; refine o_nil (r_then (r_seq ?_)); have hg3 := hg.2.1; have hp0 : 0 < 2 ^ D.ways.length := Nat.two_pow_pos _; have hpb := pow_bd (show D.ways.length ≤ 20 by omega); refine r_region ?_; refine o_q _ rfl rfl rfl (v_fieldAddr rfl Tryz.underlying30 inf27 rfl rfl rfl rfl) ?_; refine o_q _ rfl rfl rfl (v_ld1 rfl Tryz.underlying27 rfl rfl rfl) ?_; refine o_q _ rfl rfl rfl (v_len rfl rfl Tryz.underlying27 rfl) ?_; refine o_q _ rfl rfl rfl (OpQ.fn (pow07_v _ (by omega)) rfl rfl SubRC.sub) ?_; refine o_q _ rfl rfl rfl (v_cast (v := i64 ((2 ^ D.ways.length - 1 : Nat) : Int)) (v_sub rfl rfl rfl (by omega)) (congrArg (Value.int .i64) (by omega))) ?_; refine q_as rfl rfl rfl rfl rfl ?_; refine o_nil (r_then ?_); refine r_ret ?_; exact r_retv2 (Rd.tmp rfl rfl) rfl SelMC.sel SubRC.sub
end Go.Proofs.YtpndeonmmcaikaaGreat.DrW

namespace Go.Proofs.YtpndeonmmcaikaaGreat.DrW
open Go.G Foot4 Drain7
set_option maxRecDepth 1000000
attribute [local irreducible] G.ParO G.Fin
def nxTo (D : Dr) (lv : List Int) (s b : Nat) : Nat → Nat
  | 0 => D.banks.length
  | k + 1 => if JoinD D s b k ∧ lv.getD k 0 < lv.getD b 0 ∧ (nxTo D lv s b k = D.banks.length ∨ lv.getD k 0 < lv.getD (nxTo D lv s b k) 0) then k else nxTo D lv s b k
theorem nxTo_y {D : Dr} {lv : List Int} {s b k : Nat} (h : JoinD D s b k ∧ lv.getD k 0 < lv.getD b 0 ∧ (nxTo D lv s b k = D.banks.length ∨ lv.getD k 0 < lv.getD (nxTo D lv s b k) 0)) : nxTo D lv s b (k + 1) = k := if_pos h
theorem nxTo_n {D : Dr} {lv : List Int} {s b k : Nat} (h : ¬ (JoinD D s b k ∧ lv.getD k 0 < lv.getD b 0 ∧ (nxTo D lv s b k = D.banks.length ∨ lv.getD k 0 < lv.getD (nxTo D lv s b k) 0))) : nxTo D lv s b (k + 1) = nxTo D lv s b k := if_neg h
theorem nxTo_le {D : Dr} {lv : List Int} {s b : Nat} : ∀ k, k ≤ D.banks.length → nxTo D lv s b k ≤ D.banks.length
  | 0, _ => Nat.le_refl _
  | k + 1, h => by
    unfold nxTo
    split
    · omega
    · exact nxTo_le k (by omega)
abbrev nxD (D : Dr) (lv : List Int) (s b : Nat) : Nat := nxTo D lv s b D.banks.length
variable (D : Dr) (bo wo ro so : Option Addr) (bc wc rc sc : Nat)
set_option maxHeartbeats 4000000 in
theorem next07_v (hg : GoodD D) (lv : List Int) (vo : Option Addr) (vc : Nat) (hl : lv.length = D.banks.length) (s b : Nat) (hs : s ≤ 1048576) (hb : b < D.banks.length) : FnV Tryz.prog 14 [valD D bo wo ro so bc wc rc sc, .slice vo lv.length vc, i64 s, i64 b] [rowD wo 2 encDW D.ways, rowD vo 1 encI lv] (i64 ((nxD D lv s b : Nat) : Int)) := by
 refine FnV.intro Tryz.call14 Tryz.func14 rfl Tryz.ntmps14 rfl ?_; intro W M Rf; refine r_seq (r_region ?_); refine o_boxA rfl rfl rfl rfl rfl (fun b4 => ?_); refine q_as rfl rfl rfl rfl rfl ?_; refine o_nil (r_then (r_seq ?_)); have hg3 := hg.1; refine r_region ?_; refine o_q _ rfl rfl rfl (v_fieldAddr rfl Tryz.underlying30 inf26 rfl rfl rfl rfl) ?_; refine o_q _ rfl rfl rfl (v_ld1 rfl Tryz.underlying26 rfl rfl rfl) ?_; refine o_q _ rfl rfl rfl (v_len rfl rfl Tryz.underlying26 rfl) ?_; refine q_as rfl rfl rfl rfl rfl ?_; refine o_nil (r_then (r_seq ?_)); refine r_seq (r_region ?_); refine q_as rfl rfl rfl rfl rfl ?_; refine o_nil (r_then ?_); refine r_block ?_; refine r_loop (ι := Nat) (fun k => k ≤ D.banks.length) (fun k => [(1, .slice vo lv.length vc), (2, i64 s), (3, i64 b), (4, pt b4 0), (9, i64 ((nxTo D lv s b k) : Nat)), (10, i64 k)]) (fun k => bx b4 30 (cellsD D bo wo ro so bc wc rc sc) :: M) (fun k => [rowD wo 2 encDW D.ways, rowD vo 1 encI lv] ++ Rf) (fun k => D.banks.length - k) 0 ?_ ?_ ?_
 ·
  exact r_here (by repeat (first | exact FSub.nil | refine FSub.cons rfl ?_)) SelMC.sel SubRC.sub
 ·
  omega
 ·
  rintro k hI0; have hnx := nxTo_le (D := D) (lv := lv) (s := s) (b := b) k hI0; refine r_seq ?_; refine r_seq (r_region ?_); refine q_mv rfl rfl rfl rfl rfl ?_; refine o_q _ rfl rfl rfl (v_fieldAddr rfl Tryz.underlying30 inf26 rfl rfl rfl rfl) ?_; refine o_q _ rfl rfl rfl (v_ld1 rfl Tryz.underlying26 rfl rfl rfl) ?_; refine o_q _ rfl rfl rfl (v_len rfl rfl Tryz.underlying26 rfl) ?_; refine o_q _ rfl rfl rfl (v_lss rfl rfl rfl) ?_; refine o_nil (r_then ?_); refine r_condd rfl (fun hc18 => ?_) (fun hc18 => ?_)
  ·
   refine r_skip (r_then ?_); refine r_seq (r_block ?_); refine r_seq ?_; refine r_region_q mixed (by kernel_rfl) ?_; refine q_q _ rfl rfl rfl (v_ldW rfl Tryz.underlying30 rfl inf30 rfl rfl) ?_; (iterate 3 refine q_q _ rfl rfl rfl (v_move rfl rfl) ?_); refine q_test rfl rfl rfl (OpQ.fn (joined07_v D bo wo ro so bc wc rc sc hg s hs _ _) rfl rfl SubRC.sub) (fun h25 => ?_) (fun h25 => ?_)
   all_goals
    refine q_q _ rfl rfl rfl (v_move rfl rfl) ?_
    first | refine q_gn rfl rfl rfl rfl ?_ | refine q_g _ rfl rfl rfl rfl (v_move rfl rfl) ?_
    first | refine q_gn rfl rfl rfl rfl ?_ | refine q_g _ rfl rfl rfl rfl (v_move rfl rfl) ?_
    first | refine q_gn rfl rfl rfl rfl ?_ | refine q_g _ rfl rfl rfl rfl (v_indexAddrSn rfl Tryz.underlying39 inf3 rfl rfl rfl (by omega) rfl) ?_
    first | refine q_gn rfl rfl rfl rfl ?_ | refine q_g _ rfl rfl rfl rfl (v_cast (v := i64 (lv.getD k 0)) (v_loadE1 rfl Tryz.underlying3 rfl rfl (by omega) rfl rfl) rfl) ?_
    first | refine q_gn rfl rfl rfl rfl ?_ | refine q_g _ rfl rfl rfl rfl (v_move rfl rfl) ?_
    first | refine q_gn rfl rfl rfl rfl ?_ | refine q_g _ rfl rfl rfl rfl (v_move rfl rfl) ?_
    first | refine q_gn rfl rfl rfl rfl ?_ | refine q_g _ rfl rfl rfl rfl (v_indexAddrSn rfl Tryz.underlying39 inf3 rfl rfl rfl (by omega) rfl) ?_
    first | refine q_gn rfl rfl rfl rfl ?_ | refine q_g _ rfl rfl rfl rfl (v_cast (v := i64 (lv.getD b 0)) (v_loadE1 rfl Tryz.underlying3 rfl rfl (by omega) rfl rfl) rfl) ?_
    first | refine q_gn rfl rfl rfl rfl ?_ | refine q_gtest rfl rfl rfl rfl (v_lss rfl rfl rfl) (fun h35 => ?_) (fun h35 => ?_)
    all_goals
     first | refine q_q _ rfl rfl rfl (v_pick_t rfl rfl rfl) ?_ | refine q_q _ rfl rfl rfl (v_pick_f rfl rfl rfl) ?_
     refine q_q _ rfl rfl rfl (v_move rfl rfl) ?_
     first | refine q_gn rfl rfl rfl rfl ?_ | refine q_g _ rfl rfl rfl rfl (v_move rfl rfl) ?_
     first | refine q_gn rfl rfl rfl rfl ?_ | refine q_g _ rfl rfl rfl rfl (v_fieldAddr rfl Tryz.underlying30 inf26 rfl rfl rfl rfl) ?_
     first | refine q_gn rfl rfl rfl rfl ?_ | refine q_g _ rfl rfl rfl rfl (v_ld1 rfl Tryz.underlying26 rfl rfl rfl) ?_
     first | refine q_gn rfl rfl rfl rfl ?_ | refine q_g _ rfl rfl rfl rfl (v_len rfl rfl Tryz.underlying26 rfl) ?_
     first | refine q_gn rfl rfl rfl rfl ?_ | refine q_gtest rfl rfl rfl rfl (v_eql rfl rfl rfl) (fun h42 => ?_) (fun h42 => ?_)
     all_goals
      first | refine q_gn rfl rfl rfl rfl ?_ | refine q_g _ rfl rfl rfl rfl (v_move rfl rfl) ?_
      first | refine q_gn rfl rfl rfl rfl ?_ | refine q_g _ rfl rfl rfl rfl (v_move rfl rfl) ?_
      first | refine q_gn rfl rfl rfl rfl ?_ | refine q_g _ rfl rfl rfl rfl (v_move rfl rfl) ?_
      first | refine q_gn rfl rfl rfl rfl ?_ | refine q_g _ rfl rfl rfl rfl (v_indexAddrSn rfl Tryz.underlying39 inf3 rfl rfl rfl (by omega) rfl) ?_
      first | refine q_gn rfl rfl rfl rfl ?_ | refine q_g _ rfl rfl rfl rfl (v_cast (v := i64 (lv.getD k 0)) (v_loadE1 rfl Tryz.underlying3 rfl rfl (by omega) rfl rfl) rfl) ?_
      first | refine q_gn rfl rfl rfl rfl ?_ | refine q_g _ rfl rfl rfl rfl (v_move rfl rfl) ?_
      first | refine q_gn rfl rfl rfl rfl ?_ | refine q_g _ rfl rfl rfl rfl (v_move rfl rfl) ?_
      first | refine q_gn rfl rfl rfl rfl ?_ | refine q_g _ rfl rfl rfl rfl (v_indexAddrSn (k := (nxTo D lv s b k)) rfl Tryz.underlying39 inf3 rfl rfl rfl (by omega) rfl) ?_
      first | refine q_gn rfl rfl rfl rfl ?_ | refine q_g _ rfl rfl rfl rfl (v_cast (v := i64 (lv.getD (nxTo D lv s b k) 0)) (v_loadE1 rfl Tryz.underlying3 rfl rfl (by omega) rfl rfl) rfl) ?_
      first | refine q_gn rfl rfl rfl rfl ?_ | refine q_gtest rfl rfl rfl rfl (v_lss rfl rfl rfl) (fun h52 => ?_) (fun h52 => ?_)
      all_goals
       first | refine q_gn rfl rfl rfl rfl ?_ | refine q_g _ rfl rfl rfl rfl (v_pick_t rfl rfl rfl) ?_ | refine q_g _ rfl rfl rfl rfl (v_pick_f rfl rfl rfl) ?_
       first | refine q_q _ rfl rfl rfl (v_pick_t rfl rfl rfl) ?_ | refine q_q _ rfl rfl rfl (v_pick_f rfl rfl rfl) ?_
       refine q_nil ?_; refine r_then ?_; refine r_cond rfl (fun hc54 => ?_) (fun hc54 => ?_)
       ·
        first
        | (exfalso; revert hc54; decide)
        |
         skip
         refine r_region ?_; refine q_mv rfl rfl rfl rfl rfl ?_; refine q_as rfl rfl rfl rfl rfl ?_; refine o_nil ?_; refine r_in_normal ?_; refine r_then ?_; refine r_region ?_; refine q_mv rfl rfl rfl rfl rfl ?_; refine o_q _ rfl rfl rfl (v_add rfl rfl rfl (by omega)) ?_; refine q_as rfl rfl rfl rfl rfl ?_; refine o_nil (r_then ?_); refine r_next (k + 1) ?_ ?_ ?_
         ·
          (rw [nxTo_y ⟨by assumption, by omega, by first | (left; omega) | (right; omega)⟩]; exact r_here (by repeat (first | exact FSub.nil | refine FSub.cons rfl ?_)) SelMC.sel SubRC.sub)
         ·
          omega
         ·
          omega
       ·
        first
        | (exfalso; revert hc54; decide)
        |
         skip
         refine r_skip ?_; refine r_in_normal ?_; refine r_then ?_; refine r_region ?_; refine q_mv rfl rfl rfl rfl rfl ?_; refine o_q _ rfl rfl rfl (v_add rfl rfl rfl (by omega)) ?_; refine q_as rfl rfl rfl rfl rfl ?_; refine o_nil (r_then ?_); refine r_next (k + 1) ?_ ?_ ?_
         ·
          (rw [nxTo_n (fun h => by obtain ⟨h1, h2, h3⟩ := h; first | contradiction | omega | (rcases h3 with h3 | h3 <;> omega))]; exact r_here (by repeat (first | exact FSub.nil | refine FSub.cons rfl ?_)) SelMC.sel SubRC.sub)
         ·
          omega
         ·
          omega
  ·
   refine r_exit ?_; refine r_then_exit ?_; refine r_then_exit ?_; refine r_in_here ?_; refine r_then (r_seq ?_); obtain rfl : k = D.banks.length := by omega
   refine r_region ?_; refine q_mv rfl rfl rfl rfl rfl ?_; refine q_as rfl rfl rfl rfl rfl ?_; refine o_nil (r_then ?_); refine r_ret ?_; exact r_retv2 (Rd.tmp rfl rfl) rfl SelMC.sel SubRC.sub
end Go.Proofs.YtpndeonmmcaikaaGreat.DrW

namespace Go.Proofs.YtpndeonmmcaikaaGreat.DrW
open Go.G Foot4 Drain7
set_option maxRecDepth 1000000
attribute [local irreducible] G.ParO G.Fin
set_option maxHeartbeats 4000000 in
theorem mustK_t (e : Int) : FnV Tryz.prog 94 [.bool true, i64 e] [] (.tuple #[]) := by
 refine FnV.intro Tryz.call94 Tryz.func94 rfl Tryz.ntmps94 rfl ?_; intro W M Rf; refine r_seq (r_region ?_); refine q_mv rfl rfl rfl rfl rfl ?_; refine o_q _ rfl rfl rfl (v_not rfl rfl) ?_; refine o_nil (r_then ?_); refine r_cond rfl (fun hc5 => ?_) (fun hc5 => ?_)
 ·
  (exfalso; revert hc5; decide)
 ·
  refine r_skip ?_; exact r_endv (Rd.none rfl) SelMC.sel SubRC.sub
set_option maxHeartbeats 4000000 in
theorem mustD_t (e : Int) : FnV Tryz.prog 102 [.bool true, i64 e] [] (.tuple #[]) := by
 refine FnV.intro Tryz.call102 Tryz.func102 rfl Tryz.ntmps102 rfl ?_; intro W M Rf; refine r_seq (r_region ?_); refine q_mv rfl rfl rfl rfl rfl ?_; refine o_q _ rfl rfl rfl (v_not rfl rfl) ?_; refine o_nil (r_then ?_); refine r_cond rfl (fun hc5 => ?_) (fun hc5 => ?_)
 ·
  (exfalso; revert hc5; decide)
 ·
  refine r_skip ?_; exact r_endv (Rd.none rfl) SelMC.sel SubRC.sub
variable (B : Bk) (lo mo : Option Addr) (lc mc : Nat)
set_option maxHeartbeats 4000000 in
theorem isPerch_v (h : 1 ≤ B.perches ∧ B.perches ≤ 10) (n : Int) : FnV Tryz.prog 43 [valK B lo mo lc mc, i64 n] [] (.bool (decide (0 ≤ n ∧ n ≤ B.perches - 1))) := by
 refine FnV.intro Tryz.call43 Tryz.func43 rfl Tryz.ntmps43 rfl ?_; intro W M Rf; refine r_seq (r_region ?_); refine o_boxA rfl rfl rfl rfl rfl (fun b2 => ?_); refine q_as rfl rfl rfl rfl rfl ?_; refine o_nil (r_then (r_seq (r_region ?_))); refine q_mv rfl rfl rfl rfl rfl ?_; refine o_q _ rfl rfl rfl (v_fieldAddr rfl Tryz.underlying101 inf25 rfl rfl rfl rfl) ?_; refine o_q _ rfl rfl rfl (v_fieldAddr rfl Tryz.underlying25 inf3 rfl rfl rfl rfl) ?_; refine o_q _ rfl rfl rfl (v_ld1 rfl Tryz.underlying3 rfl rfl rfl) ?_; refine o_q _ rfl rfl rfl (v_sub rfl rfl rfl (by omega)) ?_; refine o_q _ rfl rfl rfl (OpQ.fn (withinK_v _ _ _) rfl rfl SubRC.sub) ?_; refine q_as rfl rfl rfl rfl rfl ?_; refine o_nil (r_then ?_); refine r_ret ?_; exact r_retv2 (Rd.tmp rfl rfl) rfl SelMC.sel SubRC.sub
set_option maxHeartbeats 4000000 in
theorem isHolder_v (n : Int) : FnV Tryz.prog 97 [valK B lo mo lc mc, i64 n] [] (.bool (decide (0 ≤ n ∧ n ≤ B.holders))) := by
 refine FnV.intro Tryz.call97 Tryz.func97 rfl Tryz.ntmps97 rfl ?_; intro W M Rf; refine r_seq (r_region ?_); refine o_boxA rfl rfl rfl rfl rfl (fun b2 => ?_); refine q_as rfl rfl rfl rfl rfl ?_; refine o_nil (r_then (r_seq (r_region ?_))); refine q_mv rfl rfl rfl rfl rfl ?_; refine o_q _ rfl rfl rfl (v_fieldAddr rfl Tryz.underlying101 inf25 rfl rfl rfl rfl) ?_; refine o_q _ rfl rfl rfl (v_fieldAddr rfl Tryz.underlying25 inf3 rfl rfl rfl rfl) ?_; refine o_q _ rfl rfl rfl (v_ld1 rfl Tryz.underlying3 rfl rfl rfl) ?_; refine o_q _ rfl rfl rfl (OpQ.fn (withinK_v _ _ _) rfl rfl SubRC.sub) ?_; refine q_as rfl rfl rfl rfl rfl ?_; refine o_nil (r_then ?_); refine r_ret ?_; exact r_retv2 (Rd.tmp rfl rfl) rfl SelMC.sel SubRC.sub
variable (D : Dr) (bo wo ro so : Option Addr) (bc wc rc sc : Nat) (bb mb : Nat)
@[reducible] def cellsG (D : Dr) (bo wo ro so : Option Addr) (bc wc rc sc : Nat) (mb : Nat) : List Value := [.slice bo D.banks.length bc, .slice wo D.ways.length wc, .slice ro D.rights.length rc, .slice so D.seen.length sc, .map (some mb)]
set_option maxHeartbeats 4000000 in
theorem isBank_v (hl : D.banks.length ≤ 40) (n : Int) : FnV Tryz.prog 148 [pt bb 0, i64 n] [boxF bb 181 (cellsG D bo wo ro so bc wc rc sc mb)] (.bool (decide (0 ≤ n ∧ n ≤ (D.banks.length : Int) - 1))) := by
 refine FnV.intro Tryz.call148 Tryz.func148 rfl Tryz.ntmps148 rfl ?_; intro W M Rf; refine r_seq (r_region ?_); refine q_as rfl rfl rfl rfl rfl ?_; refine o_nil (r_then (r_seq (r_region ?_))); refine q_mv rfl rfl rfl rfl rfl ?_; refine q_mv rfl rfl rfl rfl rfl ?_; refine o_q _ rfl rfl rfl (v_nilCheck rfl rfl) ?_; refine o_q _ rfl rfl rfl (v_fieldAddr rfl Tryz.underlying181 inf30 rfl rfl rfl rfl) ?_; refine o_q _ rfl rfl rfl (v_fieldAddr rfl Tryz.underlying30 inf26 rfl rfl rfl rfl) ?_; refine o_q _ rfl rfl rfl (v_lf1 rfl Tryz.underlying26 rfl rfl rfl) ?_; refine o_q _ rfl rfl rfl (v_len rfl rfl Tryz.underlying26 rfl) ?_; refine o_q _ rfl rfl rfl (v_sub rfl rfl rfl (by omega)) ?_; refine o_q _ rfl rfl rfl (OpQ.fn (withinD_v _ _ _) rfl rfl SubRC.sub) ?_; refine q_as rfl rfl rfl rfl rfl ?_; refine o_nil (r_then ?_); refine r_ret ?_; exact r_retv2 (Rd.tmp rfl rfl) rfl SelMC.sel SubRC.sub
set_option maxHeartbeats 4000000 in
theorem areTwo_v (hl : D.banks.length ≤ 40) (a b : Int) : FnV Tryz.prog 105 [pt bb 0, i64 a, i64 b] [boxF bb 181 (cellsG D bo wo ro so bc wc rc sc mb)] (.bool (decide (TwoD D a b))) := by
 refine FnV.intro Tryz.call105 Tryz.func105 rfl Tryz.ntmps105 rfl ?_; intro W M Rf; refine r_seq (r_region ?_); refine q_as rfl rfl rfl rfl rfl ?_; refine o_nil (r_then (r_seq (r_region ?_))); refine q_mv rfl rfl rfl rfl rfl ?_; refine q_mv rfl rfl rfl rfl rfl ?_; refine o_test rfl rfl rfl (OpQ.fn (isBank_v D bo wo ro so bc wc rc sc bb mb hl _) rfl rfl SubRC.sub) (fun h9 => ?_) (fun h9 => ?_)
 all_goals
  refine q_mv rfl rfl rfl rfl rfl ?_
  first | refine o_gn rfl rfl rfl rfl ?_ | refine o_g _ rfl rfl rfl rfl (v_move rfl rfl) ?_
  first | refine o_gn rfl rfl rfl rfl ?_ | refine o_g _ rfl rfl rfl rfl (v_move rfl rfl) ?_
  first | refine o_gn rfl rfl rfl rfl ?_ | refine o_gtest rfl rfl rfl rfl (OpQ.fn (isBank_v D bo wo ro so bc wc rc sc bb mb hl _) rfl rfl SubRC.sub) (fun h13 => ?_) (fun h13 => ?_)
  all_goals
   first | refine o_q _ rfl rfl rfl (v_pick_t rfl rfl rfl) ?_ | refine o_q _ rfl rfl rfl (v_pick_f rfl rfl rfl) ?_
   refine q_mv rfl rfl rfl rfl rfl ?_
   first | refine o_gn rfl rfl rfl rfl ?_ | refine o_g _ rfl rfl rfl rfl (v_move rfl rfl) ?_
   first | refine o_gn rfl rfl rfl rfl ?_ | refine o_g _ rfl rfl rfl rfl (v_move rfl rfl) ?_
   first | refine o_gn rfl rfl rfl rfl ?_ | refine o_gtest rfl rfl rfl rfl (v_neq rfl rfl rfl) (fun h18 => ?_) (fun h18 => ?_)
   all_goals
    first | refine o_q _ rfl rfl rfl (v_pick_t rfl rfl rfl) ?_ | refine o_q _ rfl rfl rfl (v_pick_f rfl rfl rfl) ?_
    refine q_as rfl rfl rfl rfl rfl ?_; refine o_nil (r_then ?_); refine r_ret ?_
    first | exact r_retv2 (Rd.tmp rfl rfl) (congrArg Value.bool (decide_eq_true ⟨by omega, by omega, by omega⟩).symm) SelMC.sel SubRC.sub | exact r_retv2 (Rd.tmp rfl rfl) (congrArg Value.bool (decide_eq_false (fun h => by obtain ⟨h1, h2, h3⟩ := h; omega)).symm) SelMC.sel SubRC.sub
end Go.Proofs.YtpndeonmmcaikaaGreat.DrW

namespace Go.Proofs.YtpndeonmmcaikaaGreat.DrW
open Go.G Foot4 Drain7
set_option maxRecDepth 1000000
attribute [local irreducible] G.ParO G.Fin
variable (B : Bk) (lo mo : Option Addr) (lc mc : Nat)
set_option maxHeartbeats 4000000 in
theorem whose2_v (h : 1 ≤ B.perches ∧ B.perches ≤ 10) (n : Int) (pb : Nat) : FnV Tryz.prog 42 [valK B lo mo lc mc, pt pb 0] [boxF pb 3 [i64 n]] (.bool (decide (0 ≤ n ∧ n ≤ B.perches - 1))) := by
 refine FnV.intro Tryz.call42 Tryz.func42 rfl Tryz.ntmps42 rfl ?_; intro W M Rf; refine r_seq (r_region ?_); refine o_boxA rfl rfl rfl rfl rfl (fun b2 => ?_); refine q_as rfl rfl rfl rfl rfl ?_; refine o_nil (r_then (r_seq (r_region ?_))); refine o_q _ rfl rfl rfl (v_ldW rfl Tryz.underlying101 rfl inf101 rfl rfl) ?_; refine o_q _ rfl rfl rfl (v_lf1 rfl Tryz.underlying3 rfl rfl rfl) ?_; refine o_q _ rfl rfl rfl (OpQ.fn (isPerch_v B lo mo lc mc h _) rfl rfl SubRC.sub) ?_; refine q_as rfl rfl rfl rfl rfl ?_; refine o_nil (r_then ?_); refine r_ret ?_; exact r_retv2 (Rd.tmp rfl rfl) rfl SelMC.sel SubRC.sub
set_option maxHeartbeats 4000000 in
theorem openK_v (hg : GoodK B) (n : Int) (hn : 0 ≤ n ∧ n ≤ B.perches - 1) (pb : Nat) : FnV Tryz.prog 41 [valK B lo mo lc mc, .func (.func 42) #[] #[pt pb 0]] [rowD lo 5 encLe B.leases, rowD mo 2 encMk B.marks, boxF pb 3 [i64 n]] (valK B lo mo lc mc) := by
 refine FnV.intro Tryz.call41 Tryz.func41 rfl Tryz.ntmps41 rfl ?_; intro W M Rf; refine r_seq (r_region ?_); refine o_boxA rfl rfl rfl rfl rfl (fun b2 => ?_); refine o_alloc rfl inf101 rfl rfl rfl rfl rfl (fun b4 => ?_); refine o_nil (r_then (r_seq (r_region ?_))); refine o_q _ rfl rfl rfl (v_ldW rfl Tryz.underlying25 rfl inf25 rfl rfl) ?_; refine o_q _ rfl rfl rfl (v_bS rfl Tryz.underlying101 inf101 plt101 rfl rfl rfl (by repeat (first | exact trivial | refine ⟨rfl, ?_⟩)) (by rfl)) ?_; refine o_alloc rfl inf101 rfl rfl rfl rfl rfl (fun b5 => ?_); refine o_st rfl inf101 rfl rfl rfl rfl rfl rfl rfl rfl ?_; refine o_nil (r_then (r_seq ?_)); refine Imp.box_to b5 (cellsK B lo mo lc mc) (by rfl) ?_; refine Imp.box_to b4 [i64 0, i64 0, .slice none 0 0, .slice none 0 0] (by rfl) ?_; obtain ⟨g1, g2, g3, g4, g5, g6⟩ := hg; refine r_region ?_; refine o_q _ rfl rfl rfl (v_fieldAddr rfl Tryz.underlying25 inf3 rfl rfl rfl rfl) ?_; refine o_q _ rfl rfl rfl (v_ld1 rfl Tryz.underlying3 rfl rfl rfl) ?_; refine o_q _ rfl rfl rfl (v_true (OpQ.fn (withinK_v _ _ _) rfl rfl SubRC.sub) (by omega)) ?_
 all_goals
  refine q_mv rfl rfl rfl rfl rfl ?_; refine o_g _ rfl rfl rfl rfl (v_fieldAddr rfl Tryz.underlying25 inf3 rfl rfl rfl rfl) ?_; refine o_g _ rfl rfl rfl rfl (v_ld1 rfl Tryz.underlying3 rfl rfl rfl) ?_; refine o_g _ rfl rfl rfl rfl (v_true (OpQ.fn (withinK_v _ _ _) rfl rfl SubRC.sub) (by omega)) ?_
  all_goals
   refine o_q _ rfl rfl rfl (v_pick_t rfl rfl rfl) ?_; refine q_mv rfl rfl rfl rfl rfl ?_; refine o_g _ rfl rfl rfl rfl (v_fieldAddr rfl Tryz.underlying25 inf22 rfl rfl rfl rfl) ?_; refine o_g _ rfl rfl rfl rfl (v_ld1 rfl Tryz.underlying22 rfl rfl rfl) ?_; refine o_g _ rfl rfl rfl rfl (v_len rfl rfl Tryz.underlying22 rfl) ?_; refine o_g _ rfl rfl rfl rfl (v_true (v_leq rfl rfl rfl) (by omega)) ?_
   all_goals
    refine o_q _ rfl rfl rfl (v_pick_t rfl rfl rfl) ?_; refine q_mv rfl rfl rfl rfl rfl ?_; refine o_g _ rfl rfl rfl rfl (v_fieldAddr rfl Tryz.underlying25 inf23 rfl rfl rfl rfl) ?_; refine o_g _ rfl rfl rfl rfl (v_ld1 rfl Tryz.underlying23 rfl rfl rfl) ?_; refine o_g _ rfl rfl rfl rfl (v_len rfl rfl Tryz.underlying23 rfl) ?_; refine o_g _ rfl rfl rfl rfl (v_true (v_leq rfl rfl rfl) (by omega)) ?_
    all_goals
     refine o_q _ rfl rfl rfl (v_pick_t rfl rfl rfl) ?_; refine o_q _ rfl rfl rfl (OpQ.fn (mustK_t _) rfl rfl SubRC.sub) ?_; refine o_nil (r_then (r_seq (r_region ?_))); refine q_as rfl rfl rfl rfl rfl ?_; refine o_nil (r_then (r_seq ?_)); refine r_seq (r_region ?_); refine o_q _ rfl rfl rfl (v_fieldAddr rfl Tryz.underlying25 inf22 rfl rfl rfl rfl) ?_; refine o_q _ rfl rfl rfl (v_ld1 rfl Tryz.underlying22 rfl rfl rfl) ?_; refine o_q _ rfl rfl rfl (v_len rfl rfl Tryz.underlying22 rfl) ?_; refine q_mv rfl rfl rfl rfl rfl ?_; refine o_nil (r_then ?_); refine r_block ?_; refine r_loop (ι := Nat) (fun k => k ≤ B.leases.length) (fun k => [(1, .func (.func 42) #[] #[pt pb 0]), (2, pt b2 0), (4, pt b4 0), (5, pt b5 0), (6, .func (.func 96) #[] #[]), (35, .slice lo B.leases.length lc), (36, i64 B.leases.length), (37, i64 k)]) (fun k => bx b2 25 (cellsK B lo mo lc mc) :: bx b5 101 (cellsK B lo mo lc mc) :: bx b4 101 [i64 0, i64 0, .slice none 0 0, .slice none 0 0] :: M) (fun k => [rowD lo 5 encLe B.leases, rowD mo 2 encMk B.marks, boxF pb 3 [i64 n]] ++ Rf) (fun k => B.leases.length - k) 0 ?_ ?_ ?_
     ·
      exact r_here (by repeat (first | exact FSub.nil | refine FSub.cons rfl ?_)) SelMC.sel SubRC.sub
     ·
      omega
     ·
      rintro k hI0; refine r_seq (r_region ?_); refine o_q _ rfl rfl rfl (v_lss rfl rfl rfl) ?_; refine o_nil (r_then (r_seq ?_)); refine r_condd rfl (fun hc38 => ?_) (fun hc38 => ?_)
      ·
       refine r_skip (r_then ?_); refine r_seq (r_block ?_); refine r_seq (r_region ?_); refine o_q _ rfl rfl rfl (v_indexAddrSn rfl Tryz.underlying22 inf84 rfl rfl rfl (by omega) rfl) ?_; refine o_q _ rfl rfl rfl (v_cast (v := .agg #[i64 (B.leases.getD k default).holder, i64 (B.leases.getD k default).flo, i64 (B.leases.getD k default).fhi, i64 (B.leases.getD k default).tlo, i64 (B.leases.getD k default).thi]) (v_loadEN rfl Tryz.underlying84 rfl inf84 rfl (by omega) rfl rfl rfl) rfl) ?_; refine o_alloc rfl inf84 rfl rfl rfl rfl rfl (fun b8 => ?_); refine o_st rfl inf84 rfl rfl rfl rfl rfl rfl rfl rfl ?_; refine o_nil (r_then ?_); obtain ⟨e1, e2, e3, e4⟩ := g5 k (by omega); refine r_region ?_; refine o_q _ rfl rfl rfl (v_fieldAddr rfl Tryz.underlying84 inf3 rfl rfl rfl rfl) ?_; refine o_q _ rfl rfl rfl (v_ld1 rfl Tryz.underlying3 rfl rfl rfl) ?_; refine o_q _ rfl rfl rfl (v_fieldAddr rfl Tryz.underlying25 inf3 rfl rfl rfl rfl) ?_; refine o_q _ rfl rfl rfl (v_ld1 rfl Tryz.underlying3 rfl rfl rfl) ?_; refine o_q _ rfl rfl rfl (v_sub rfl rfl rfl (by omega)) ?_; refine o_q _ rfl rfl rfl (v_true (OpQ.fn (withinK_v _ _ _) rfl rfl SubRC.sub) (by omega)) ?_
       all_goals
        refine q_mv rfl rfl rfl rfl rfl ?_; refine o_g _ rfl rfl rfl rfl (v_move rfl rfl) ?_; refine o_g _ rfl rfl rfl rfl (v_fieldAddr rfl Tryz.underlying84 inf43 rfl rfl rfl rfl) ?_; refine o_g _ rfl rfl rfl rfl (v_ldN rfl Tryz.underlying43 rfl inf43 rfl rfl rfl) ?_; refine o_g _ rfl rfl rfl rfl (v_fieldAddr rfl Tryz.underlying25 inf3 rfl rfl rfl rfl) ?_; refine o_g _ rfl rfl rfl rfl (v_ld1 rfl Tryz.underlying3 rfl rfl rfl) ?_; refine o_g _ rfl rfl rfl rfl (v_sub rfl rfl rfl (by omega)) ?_; refine o_g _ rfl rfl rfl rfl (v_cast (v := .bool true) (OpQ.call (openK1_v _ _ _ _ (by omega) (by omega)) rfl [] [] rfl rfl rfl SubRC.sub) (congrArg Value.bool (decide_eq_true e2))) ?_; refine o_q _ rfl rfl rfl (v_pick_t rfl rfl rfl) ?_; refine q_mv rfl rfl rfl rfl rfl ?_; refine o_g _ rfl rfl rfl rfl (v_move rfl rfl) ?_; refine o_g _ rfl rfl rfl rfl (v_fieldAddr rfl Tryz.underlying84 inf43 rfl rfl rfl rfl) ?_; refine o_g _ rfl rfl rfl rfl (v_ldN rfl Tryz.underlying43 rfl inf43 rfl rfl rfl) ?_; refine o_g _ rfl rfl rfl rfl (v_fieldAddr rfl Tryz.underlying25 inf3 rfl rfl rfl rfl) ?_; refine o_g _ rfl rfl rfl rfl (v_ld1 rfl Tryz.underlying3 rfl rfl rfl) ?_; refine o_g _ rfl rfl rfl rfl (v_cast (v := .bool true) (OpQ.call (openK1_v _ _ _ _ (by omega) (by omega)) rfl [] [] rfl rfl rfl SubRC.sub) (congrArg Value.bool (decide_eq_true e3))) ?_; refine o_q _ rfl rfl rfl (v_pick_t rfl rfl rfl) ?_; refine q_mv rfl rfl rfl rfl rfl ?_; refine o_g _ rfl rfl rfl rfl (v_fieldAddr rfl Tryz.underlying84 inf43 rfl rfl rfl rfl) ?_; refine o_g _ rfl rfl rfl rfl (v_fieldAddr rfl Tryz.underlying43 inf3 rfl rfl rfl rfl) ?_; refine o_g _ rfl rfl rfl rfl (v_ld1 rfl Tryz.underlying3 rfl rfl rfl) ?_; refine o_g _ rfl rfl rfl rfl (v_fieldAddr rfl Tryz.underlying84 inf43 rfl rfl rfl rfl) ?_; refine o_g _ rfl rfl rfl rfl (v_fieldAddr rfl Tryz.underlying43 inf3 rfl rfl rfl rfl) ?_; refine o_g _ rfl rfl rfl rfl (v_ld1 rfl Tryz.underlying3 rfl rfl rfl) ?_; refine o_g _ rfl rfl rfl rfl (v_true (v_lss rfl rfl rfl) (by omega)) ?_
        all_goals
         refine o_q _ rfl rfl rfl (v_pick_t rfl rfl rfl) ?_; refine o_q _ rfl rfl rfl (OpQ.fn (mustK_t _) rfl rfl SubRC.sub) ?_; refine o_nil ?_; refine r_in_normal ?_; refine r_then ?_; refine r_region ?_; refine o_q _ rfl rfl rfl (v_add rfl rfl rfl (by omega)) ?_; refine q_mv rfl rfl rfl rfl rfl ?_; refine o_nil (r_then ?_); refine r_next (k + 1) ?_ ?_ ?_
         ·
          exact r_here (by repeat (first | exact FSub.nil | refine FSub.cons rfl ?_)) SelMC.sel SubRC.sub
         ·
          omega
         ·
          omega
      ·
       refine r_exit ?_; refine r_then_exit ?_; refine r_then_exit ?_; refine r_in_here ?_; refine r_then (r_seq ?_); refine r_seq (r_region ?_); refine o_q _ rfl rfl rfl (v_fieldAddr rfl Tryz.underlying25 inf23 rfl rfl rfl rfl) ?_; refine o_q _ rfl rfl rfl (v_ld1 rfl Tryz.underlying23 rfl rfl rfl) ?_; refine o_q _ rfl rfl rfl (v_len rfl rfl Tryz.underlying23 rfl) ?_; refine q_mv rfl rfl rfl rfl rfl ?_; refine o_nil (r_then ?_); refine r_block ?_; refine r_loop (ι := Nat) (fun k => k ≤ B.marks.length) (fun k => [(1, .func (.func 42) #[] #[pt pb 0]), (2, pt b2 0), (4, pt b4 0), (5, pt b5 0), (76, .slice mo B.marks.length mc), (77, i64 B.marks.length), (78, i64 k)]) (fun k => bx b2 25 (cellsK B lo mo lc mc) :: bx b5 101 (cellsK B lo mo lc mc) :: bx b4 101 [i64 0, i64 0, .slice none 0 0, .slice none 0 0] :: M) (fun k => [rowD lo 5 encLe B.leases, rowD mo 2 encMk B.marks, boxF pb 3 [i64 n]] ++ Rf) (fun k => B.marks.length - k) 0 ?_ ?_ ?_
       ·
        exact r_here (by repeat (first | exact FSub.nil | refine FSub.cons rfl ?_)) SelMC.sel SubRC.sub
       ·
        omega
       ·
        rintro k hI1; refine r_seq (r_region ?_); refine o_q _ rfl rfl rfl (v_lss rfl rfl rfl) ?_; refine o_nil (r_then (r_seq ?_)); refine r_condd rfl (fun hc79 => ?_) (fun hc79 => ?_)
        ·
         refine r_skip (r_then ?_); refine r_seq (r_block ?_); refine r_seq (r_region ?_); refine o_q _ rfl rfl rfl (v_indexAddrSn rfl Tryz.underlying23 inf88 rfl rfl rfl (by omega) rfl) ?_; refine o_q _ rfl rfl rfl (v_cast (v := .agg #[i64 (B.marks.getD k default).perch, i64 (B.marks.getD k default).holder]) (v_loadEN rfl Tryz.underlying88 rfl inf88 rfl (by omega) rfl rfl rfl) rfl) ?_; refine o_alloc rfl inf88 rfl rfl rfl rfl rfl (fun b10 => ?_); refine o_st rfl inf88 rfl rfl rfl rfl rfl rfl rfl rfl ?_; refine o_nil (r_then ?_); obtain ⟨e1, e2⟩ := g6 k (by omega); refine r_region ?_; refine o_q _ rfl rfl rfl (v_ldW rfl Tryz.underlying101 rfl inf101 rfl rfl) ?_; refine o_q _ rfl rfl rfl (v_fieldAddr rfl Tryz.underlying88 inf3 rfl rfl rfl rfl) ?_; refine o_q _ rfl rfl rfl (v_ld1 rfl Tryz.underlying3 rfl rfl rfl) ?_; refine o_q _ rfl rfl rfl (v_true (OpQ.fn (isPerch_v B lo mo lc mc (by omega) _) rfl rfl SubRC.sub) (by omega)) ?_
         all_goals
          refine q_mv rfl rfl rfl rfl rfl ?_; refine o_g _ rfl rfl rfl rfl (v_ldW rfl Tryz.underlying101 rfl inf101 rfl rfl) ?_; refine o_g _ rfl rfl rfl rfl (v_fieldAddr rfl Tryz.underlying88 inf3 rfl rfl rfl rfl) ?_; refine o_g _ rfl rfl rfl rfl (v_ld1 rfl Tryz.underlying3 rfl rfl rfl) ?_; refine o_g _ rfl rfl rfl rfl (v_true (OpQ.fn (isHolder_v B lo mo lc mc _) rfl rfl SubRC.sub) (by omega)) ?_
          all_goals
           refine o_q _ rfl rfl rfl (v_pick_t rfl rfl rfl) ?_; refine o_q _ rfl rfl rfl (OpQ.fn (mustK_t _) rfl rfl SubRC.sub) ?_; refine o_nil ?_; refine r_in_normal ?_; refine r_then ?_; refine r_region ?_; refine o_q _ rfl rfl rfl (v_add rfl rfl rfl (by omega)) ?_; refine q_mv rfl rfl rfl rfl rfl ?_; refine o_nil (r_then ?_); refine r_next (k + 1) ?_ ?_ ?_
           ·
            exact r_here (by repeat (first | exact FSub.nil | refine FSub.cons rfl ?_)) SelMC.sel SubRC.sub
           ·
            omega
           ·
            omega
        ·
         refine r_exit ?_; refine r_then_exit ?_; refine r_then_exit ?_; refine r_in_here ?_; refine r_then (r_seq (r_region ?_)); refine q_mv rfl rfl rfl rfl rfl ?_; refine o_q _ rfl rfl rfl (v_ldW rfl Tryz.underlying101 rfl inf101 rfl rfl) ?_; refine o_q _ rfl rfl rfl (v_cast (v := .bool true) (OpQ.call (whose2_v B lo mo lc mc g1 n pb) rfl [] [pt pb 0] rfl rfl rfl SubRC.sub) (congrArg Value.bool (decide_eq_true hn))) ?_; refine o_q _ rfl rfl rfl (OpQ.fn (mustK_t _) rfl rfl SubRC.sub) ?_; refine o_nil (r_then (r_seq (r_region ?_))); refine o_q _ rfl rfl rfl (v_ldW rfl Tryz.underlying101 rfl inf101 rfl rfl) ?_; refine o_st rfl inf101 rfl rfl rfl rfl rfl rfl rfl rfl ?_; refine o_nil (r_then ?_); refine r_ret ?_; exact r_retv2 (Rd.one rfl (RdI.cellW Tryz.underlying101 rfl inf101 rfl rfl)) rfl SelMC.sel SubRC.sub
end Go.Proofs.YtpndeonmmcaikaaGreat.DrW

namespace Drain7
open Go Go.G
@[reducible] def u64 (n : Nat) : Value := .int .u64 (n : Int)
def cnt (m : Nat) : Nat := m % 2 + m / 2 % 2 + m / 4 % 2 + m / 8 % 2 + m / 16 % 2 + m / 32 % 2 + m / 64 % 2
def swpC (l : List Nat) (i j : Nat) : List Nat := (l.set i (l.getD j default)).set j (l.getD i default)
theorem swpC_len (l : List Nat) (i j : Nat) : (swpC l i j).length = l.length := by simp [swpC]
def sinkC (a : Nat) : Nat → List Nat → List Nat
  | 0, l => l
  | j + 1, l => if a < j + 1 ∧ cnt (l.getD (j + 1) default) < cnt (l.getD j default) then sinkC a j (swpC l (j + 1) j) else l
theorem sinkC_y {a j : Nat} {l : List Nat} (h : a < j + 1) (h2 : cnt (l.getD (j + 1) default) < cnt (l.getD j default)) : sinkC a (j + 1) l = sinkC a j (swpC l (j + 1) j) := if_pos ⟨h, h2⟩
theorem sinkC_n {a j : Nat} {l : List Nat} (h : ¬ (a < j ∧ cnt (l.getD j default) < cnt (l.getD (j - 1) default))) : sinkC a j l = l := by
  cases j with
  | zero => rfl
  | succ j => exact if_neg h
theorem sinkC_len (a : Nat) : ∀ (j : Nat) (l : List Nat), (sinkC a j l).length = l.length
  | 0, _ => rfl
  | j + 1, l => by
    unfold sinkC
    split
    · rw [sinkC_len, swpC_len]
    · rfl
def insC (a : Nat) (l : List Nat) : Nat → List Nat
  | 0 => l
  | k + 1 => sinkC a (a + 1 + k) (insC a l k)
theorem insC_len (a : Nat) (l : List Nat) : ∀ k, (insC a l k).length = l.length
  | 0 => rfl
  | k + 1 => by unfold insC; rw [sinkC_len, insC_len a l k]
def swapR (l : List Nat) (a b : Nat) : Nat → List Nat
  | 0 => l
  | n + 1 => swpC (swapR l a b n) (a + n) (b + n)
theorem swapR_len (l : List Nat) (a b : Nat) : ∀ n, (swapR l a b n).length = l.length
  | 0 => rfl
  | n + 1 => by unfold swapR; rw [swpC_len, swapR_len l a b n]
def rotK (m : Nat) : Nat → List Nat → Nat → Nat → List Nat
  | 0, l, _, _ => l
  | f + 1, l, i, j => if i = j then swapR l (m - i) m i else if j < i then rotK m f (swapR l (m - i) m j) (i - j) j else rotK m f (swapR l (m - i) (m + j - i) i) i (j - i)
theorem rotK_len (m : Nat) : ∀ (f : Nat) (l : List Nat) (i j : Nat), (rotK m f l i j).length = l.length
  | 0, _, _, _ => rfl
  | f + 1, l, i, j => by
    unfold rotK
    split
    · exact swapR_len ..
    · split
      · rw [rotK_len, swapR_len]
      · rw [rotK_len, swapR_len]
theorem rotK_e {m f : Nat} {l : List Nat} {i j : Nat} (h : i = j) : rotK m (f + 1) l i j = swapR l (m - i) m i := if_pos h
theorem rotK_g {m f : Nat} {l : List Nat} {i j : Nat} (h : j < i) : rotK m (f + 1) l i j = rotK m f (swapR l (m - i) m j) (i - j) j := (if_neg (by omega)).trans (if_pos h)
theorem rotK_l {m f : Nat} {l : List Nat} {i j : Nat} (h : i < j) : rotK m (f + 1) l i j = rotK m f (swapR l (m - i) (m + j - i) i) i (j - i) := (if_neg (by omega)).trans (if_neg (by omega))
def rotC (l : List Nat) (a m b : Nat) : List Nat := rotK m (b - a + 1) l (m - a) (b - m)
theorem rotC_len (l : List Nat) (a m b : Nat) : (rotC l a m b).length = l.length := rotK_len ..
def bsK (q : Nat → Bool) : Nat → Nat → Nat → Nat
  | 0, i, _ => i
  | f + 1, i, j => if i < j then (if q ((i + j) / 2) = true then bsK q f ((i + j) / 2 + 1) j else bsK q f i ((i + j) / 2)) else i
theorem bsK_n {q : Nat → Bool} {f i j : Nat} (h : ¬ i < j) : bsK q f i j = i := by
  cases f with
  | zero => rfl
  | succ f => exact if_neg h
theorem bsK_t {q : Nat → Bool} {f i j : Nat} (h : i < j) (hq : q ((i + j) / 2) = true) : bsK q (f + 1) i j = bsK q f ((i + j) / 2 + 1) j := (if_pos h).trans (if_pos hq)
theorem bsK_f {q : Nat → Bool} {f i j : Nat} (h : i < j) (hq : ¬ q ((i + j) / 2) = true) : bsK q (f + 1) i j = bsK q f i ((i + j) / 2) := (if_pos h).trans (if_neg hq)
theorem bsK_bd {q : Nat → Bool} : ∀ (f i j : Nat), i ≤ j → i ≤ bsK q f i j ∧ bsK q f i j ≤ j
  | 0, i, j, h => ⟨Nat.le_refl _, h⟩
  | f + 1, i, j, h => by
    unfold bsK
    split
    · split
      · have := bsK_bd (q := q) f ((i + j) / 2 + 1) j (by omega)
        omega
      · have := bsK_bd (q := q) f i ((i + j) / 2) (by omega)
        omega
    · omega
def upC (l : List Nat) (a : Nat) : Nat → List Nat
  | 0 => l
  | n + 1 => swpC (upC l a n) (a + n) (a + n + 1)
theorem upC_len (l : List Nat) (a : Nat) : ∀ n, (upC l a n).length = l.length
  | 0 => rfl
  | n + 1 => by unfold upC; rw [swpC_len, upC_len l a n]
def dnC (l : List Nat) (m : Nat) : Nat → List Nat
  | 0 => l
  | n + 1 => swpC (dnC l m n) (m - n) (m - n - 1)
theorem dnC_len (l : List Nat) (m : Nat) : ∀ n, (dnC l m n).length = l.length
  | 0 => rfl
  | n + 1 => by unfold dnC; rw [swpC_len, dnC_len l m n]
def q1 (l : List Nat) (a h : Nat) : Bool := decide (cnt (l.getD h default) < cnt (l.getD a default))
def q2 (l : List Nat) (m h : Nat) : Bool := ! decide (cnt (l.getD m default) < cnt (l.getD h default))
def q3 (l : List Nat) (p c : Nat) : Bool := ! decide (cnt (l.getD (p - c) default) < cnt (l.getD c default))
def stC (l : List Nat) (a m b : Nat) : Nat :=
  if (a + b) / 2 < m then bsK (q3 l ((a + b) / 2 + m - 1)) (b - a) ((a + b) / 2 + m - b) ((a + b) / 2) else bsK (q3 l ((a + b) / 2 + m - 1)) (b - a) a m
def roC (l : List Nat) (a m b : Nat) : List Nat := if stC l a m b < m ∧ m < (a + b) / 2 + m - stC l a m b then rotC l (stC l a m b) m ((a + b) / 2 + m - stC l a m b) else l
theorem roC_len (l : List Nat) (a m b : Nat) : (roC l a m b).length = l.length := by
  unfold roC
  split
  · exact rotC_len ..
  · rfl
def symC : Nat → List Nat → Nat → Nat → Nat → List Nat
  | 0, l, _, _, _ => l
  | f + 1, l, a, m, b =>
    if m - a = 1 then upC l a (bsK (q1 l a) (b - m) m b - 1 - a)
    else if b - m = 1 then dnC l m (m - bsK (q2 l m) (m - a) a m)
    else
      let l1 := roC l a m b
      let l2 := if a < stC l a m b ∧ stC l a m b < (a + b) / 2 then symC f l1 a (stC l a m b) ((a + b) / 2) else l1
      if (a + b) / 2 < (a + b) / 2 + m - stC l a m b ∧ (a + b) / 2 + m - stC l a m b < b then symC f l2 ((a + b) / 2) ((a + b) / 2 + m - stC l a m b) b else l2
theorem symC_len : ∀ (f : Nat) (l : List Nat) (a m b : Nat), (symC f l a m b).length = l.length
  | 0, _, _, _, _ => rfl
  | f + 1, l, a, m, b => by
    unfold symC
    split
    · exact upC_len ..
    · split
      · exact dnC_len ..
      · dsimp only
        split
        · rw [symC_len]
          split
          · rw [symC_len, roC_len]
          · exact roC_len ..
        · split
          · rw [symC_len, roC_len]
          · exact roC_len ..
def blkC : Nat → List Nat → Nat → List Nat × Nat
  | 0, l, a => (l, a)
  | f + 1, l, a => if a + 20 ≤ l.length then blkC f (insC a l 19) (a + 20) else (l, a)
def pairC (bs : Nat) : Nat → List Nat → Nat → List Nat × Nat
  | 0, l, a => (l, a)
  | f + 1, l, a => if a + 2 * bs ≤ l.length then pairC bs f (symC 8 l a (a + bs) (a + 2 * bs)) (a + 2 * bs) else (l, a)
def endC (bs : Nat) (r : List Nat × Nat) : List Nat := if r.2 + bs < r.1.length then symC 8 r.1 r.2 (r.2 + bs) r.1.length else r.1
def mrgC : Nat → List Nat → Nat → List Nat
  | 0, l, _ => l
  | f + 1, l, bs => if bs < l.length then mrgC f (endC bs (pairC bs l.length l 0)) (2 * bs) else l
def stableC (l : List Nat) : List Nat := mrgC 4 (insC (blkC l.length l 0).2 (blkC l.length l 0).1 (l.length - (blkC l.length l 0).2 - 1)) 20
def Sm (l : List Nat) : Prop := ∀ j, l.getD j default < 128
theorem Sm.set {l : List Nat} {v : Nat} (h : Sm l) (hv : v < 128) (i : Nat) : Sm (l.set i v) := fun k => by
  rw [List.getD_eq_getElem?_getD, List.getElem?_set]
  split
  · split
    · exact hv
    · exact (by decide : (0 : Nat) < 128)
  · rw [← List.getD_eq_getElem?_getD]; exact h k
theorem Sm.swp {l : List Nat} (h : Sm l) (i j : Nat) : Sm (swpC l i j) := (h.set (h j) i).set (h i) j
theorem Sm.sink {a : Nat} : ∀ (j : Nat) {l : List Nat}, Sm l → Sm (sinkC a j l)
  | 0, _, h => h
  | j + 1, l, h => by
    unfold sinkC
    split
    · exact Sm.sink j (h.swp _ _)
    · exact h
theorem Sm.ins {a : Nat} {l : List Nat} (h : Sm l) : ∀ k, Sm (insC a l k)
  | 0 => h
  | k + 1 => (h.ins k).sink _
theorem Sm.swapR {l : List Nat} {a b : Nat} (h : Sm l) : ∀ n, Sm (swapR l a b n)
  | 0 => h
  | n + 1 => (h.swapR n).swp _ _
theorem Sm.rotK {m : Nat} : ∀ (f : Nat) {l : List Nat} (i j : Nat), Sm l → Sm (rotK m f l i j)
  | 0, _, _, _, h => h
  | f + 1, l, i, j, h => by
    unfold Drain7.rotK
    split
    · exact h.swapR _
    · split
      · exact Sm.rotK f _ _ (h.swapR _)
      · exact Sm.rotK f _ _ (h.swapR _)
theorem Sm.upC {l : List Nat} {a : Nat} (h : Sm l) : ∀ n, Sm (upC l a n)
  | 0 => h
  | n + 1 => (h.upC n).swp _ _
theorem Sm.dnC {l : List Nat} {m : Nat} (h : Sm l) : ∀ n, Sm (dnC l m n)
  | 0 => h
  | n + 1 => (h.dnC n).swp _ _
theorem Sm.roC {l : List Nat} {a m b : Nat} (h : Sm l) : Sm (roC l a m b) := by
  unfold Drain7.roC
  split
  · exact Sm.rotK _ _ _ h
  · exact h
theorem Sm.symC : ∀ (f : Nat) {l : List Nat} (a m b : Nat), Sm l → Sm (symC f l a m b)
  | 0, _, _, _, _, h => h
  | f + 1, l, a, m, b, h => by
    unfold Drain7.symC
    split
    · exact h.upC _
    · split
      · exact h.dnC _
      · dsimp only
        split
        · refine Sm.symC f _ _ _ ?_
          split
          · exact Sm.symC f _ _ _ h.roC
          · exact h.roC
        · split
          · exact Sm.symC f _ _ _ h.roC
          · exact h.roC
theorem Sm.range {n : Nat} (h : n ≤ 128) : Sm (List.range n) := fun j => by
  rw [List.getD_eq_getElem?_getD]
  by_cases hj : j < n
  · rw [List.getElem?_range hj]; show j < 128; omega
  · rw [List.getElem?_eq_none (by rw [List.length_range]; omega)]; exact (by decide : (0 : Nat) < 128)
def sortedL (n : Nat) : List Nat := (List.range 8).flatMap fun k => (List.range (2 ^ n)).filter fun s => decide (cnt s = k)
set_option maxRecDepth 1000000 in
theorem stable_6 : stableC (List.range 64) = sortedL 6 := by decide +kernel
set_option maxRecDepth 1000000 in
theorem stable_7 : stableC (List.range 128) = sortedL 7 := by decide +kernel
set_option maxRecDepth 1000000 in
theorem stable_le : ∀ n, n ≤ 5 → stableC (List.range (2 ^ n)) = sortedL n := by decide +kernel
theorem stable_eq {n : Nat} (h : n ≤ 7) : stableC (List.range (2 ^ n)) = sortedL n := by
  by_cases h6 : n = 6
  · subst h6; exact stable_6
  by_cases h7 : n = 7
  · subst h7; exact stable_7
  exact stable_le n (by omega)
theorem cnt_lt (m : Nat) : cnt m < 8 := by unfold cnt; omega
theorem mem_sorted {n s : Nat} : s ∈ sortedL n ↔ s < 2 ^ n := by
  unfold sortedL
  simp only [List.mem_flatMap, List.mem_range, List.mem_filter, decide_eq_true_eq]
  exact ⟨fun ⟨_, _, h, _⟩ => h, fun h => ⟨cnt s, cnt_lt s, h, rfl⟩⟩
theorem pair_flat {f : Nat → List Nat} (hf : ∀ k, ∀ s ∈ f k, cnt s = k) : ∀ (l : List Nat), l.Pairwise (fun a b => a ≤ b) → (l.flatMap f).Pairwise fun x y => cnt x ≤ cnt y
  | [], _ => List.Pairwise.nil
  | k :: l, h => by
    rw [List.flatMap_cons, List.pairwise_append]
    refine ⟨?_, pair_flat hf l (List.pairwise_cons.1 h).2, ?_⟩
    · refine List.Pairwise.imp_of_mem (R := fun _ _ => True) ?_ (List.pairwise_of_forall fun _ _ => trivial)
      intro x y hx hy _
      rw [hf k x hx, hf k y hy]; exact Nat.le_refl _
    · intro x hx y hy
      obtain ⟨k2, hk2, hy2⟩ := List.mem_flatMap.1 hy
      rw [hf k x hx, hf k2 y hy2]
      exact (List.pairwise_cons.1 h).1 k2 hk2
theorem sorted_cnt (n : Nat) : List.Pairwise (fun x y => cnt x ≤ cnt y) (sortedL n) := by
  refine pair_flat (fun k s hs => ?_) _ (by decide)
  simpa using (List.mem_filter.1 hs).2
theorem find_le {p q : Nat → Bool} {a b : Nat} : ∀ (l : List Nat), l.Pairwise (fun x y => cnt x ≤ cnt y) → (∀ s, p s = true → q s = true) → l.find? p = some a → l.find? q = some b → cnt b ≤ cnt a
  | [], _, _, h, _ => by cases h
  | x :: l, hp, hpq, h1, h2 => by
    have hl := List.pairwise_cons.1 hp
    by_cases hq : q x = true
    · rw [List.find?_cons_of_pos hq] at h2
      have hb := Option.some.inj h2
      rw [← hb]
      by_cases hx : p x = true
      · rw [List.find?_cons_of_pos hx] at h1
        have ha := Option.some.inj h1
        rw [← ha]; exact Nat.le_refl _
      · rw [List.find?_cons_of_neg hx] at h1
        exact hl.1 a (List.mem_of_find?_eq_some h1)
    · have hx : ¬ p x = true := fun h => hq (hpq x h)
      rw [List.find?_cons_of_neg hq] at h2
      rw [List.find?_cons_of_neg hx] at h1
      exact find_le l hl.2 hpq h1 h2
end Drain7

namespace Go.G
theorem v_shrK {P : Program} {W : World} {n : Nat} {L : Tm} {M : List Res} {R : List Fact} {o : Oper} {t u : TypeId} {x y : Operand} {a h : Nat} (r : Nat) (ho : o.op = .binOp .shr t x y u) (hx : ev L x = some (.int .u64 (a : Int))) (hy : ev L y = some (.int .u64 (h : Int))) (ha : a < 2 ^ 62) (hh : h < 62) (hr : a >>> h = r) : OpQ P W n L M R o (.int .u64 (r : Int)) :=
  OpQ.of_value fun f w h1 _ => by
    subst hr
    have hle : a >>> h ≤ a := Nat.shiftRight_le a h
    have hw : IntKind.wrap .u64 ((a >>> h : Nat) : Int) = ((a >>> h : Nat) : Int) := u64_small (by omega)
    have h2 : ¬ ((h : Int) < 0) := by omega
    have h3 : min h 64 = h := by omega
    have hs : (Op.shift .shr .u64 (a : Int) .u64 (h : Int)).run P w = .ok (.int .u64 ((a >>> h : Nat) : Int)) w := by
      unfold Op.shift
      rw [if_neg h2]
      have e : ((a : Int).fdiv (2 ^ (min (h : Int).toNat IntKind.u64.bits))) = ((a >>> h : Nat) : Int) := by
        rw [show (h : Int).toNat = h from by simp, show IntKind.u64.bits = 64 from rfl, h3, Nat.shiftRight_eq_div_pow, Int.fdiv_eq_ediv_of_nonneg _ (by exact Int.le_of_lt (Int.pow_pos (by decide)))]
        simp
      simp only [e, hw, Sem.run_pure]
    have hb : (binOp .shr t (.int .u64 (a : Int)) (.int .u64 (h : Int))).run P w = .ok (.int .u64 ((a >>> h : Nat) : Int)) w := hs
    simp [execOp, ho, h1.ev hx, h1.ev hy, eqGuard, hb]
theorem v_andK {P : Program} {W : World} {n : Nat} {L : Tm} {M : List Res} {R : List Fact} {o : Oper} {t u : TypeId} {x y : Operand} {a b : Nat} (r : Nat) (ho : o.op = .binOp .and t x y u) (hx : ev L x = some (.int .u64 (a : Int))) (hy : ev L y = some (.int .u64 (b : Int))) (ha : a < 2 ^ 62) (hb : b < 2 ^ 64) (hr : a &&& b = r) : OpQ P W n L M R o (.int .u64 (r : Int)) :=
  OpQ.of_value fun f w h1 _ => by
    subst hr
    have hlt : a &&& b ≤ a := Nat.and_le_left
    have hw : IntKind.wrap .u64 ((a &&& b : Nat) : Int) = ((a &&& b : Nat) : Int) := u64_small (by omega)
    have hs : (Op.intBits .and .u64 (a : Int) (b : Int)).run P w = .ok (.int .u64 ((a &&& b : Nat) : Int)) w := by
      unfold Op.intBits
      have e1 : (BitVec.ofInt IntKind.u64.bits (a : Int) &&& BitVec.ofInt IntKind.u64.bits (b : Int)).toNat = a &&& b := by
        have h64 : IntKind.u64.bits = 64 := rfl
        rw [BitVec.toNat_and]
        simp only [BitVec.ofInt_natCast, BitVec.toNat_ofNat, h64]
        rw [Nat.mod_eq_of_lt (by omega), Nat.mod_eq_of_lt (by omega)]
      simp only [e1, hw, Sem.run_pure]
    have hb2 : (binOp .and t (.int .u64 (a : Int)) (.int .u64 (b : Int))).run P w = .ok (.int .u64 ((a &&& b : Nat) : Int)) w := hs
    simp [execOp, ho, h1.ev hx, h1.ev hy, eqGuard, hb2]
theorem v_addK {P : Program} {W : World} {n : Nat} {L : Tm} {M : List Res} {R : List Fact} {o : Oper} {t u : TypeId} {x y : Operand} {a b : Nat} (r : Nat) (ho : o.op = .binOp .add t x y u) (hx : ev L x = some (.int .u64 (a : Int))) (hy : ev L y = some (.int .u64 (b : Int))) (hb : a + b < 2 ^ 62) (hr : a + b = r) : OpQ P W n L M R o (.int .u64 (r : Int)) :=
  v_cast (v_addU ho hx hy (by omega)) (by rw [← hr]; simp)
def oc1 (m : Nat) : Nat := (m >>> 1 &&& 6148914691236517205) + (m &&& 6148914691236517205)
def oc2 (m : Nat) : Nat := (oc1 m >>> 2 &&& 3689348814741910323) + (oc1 m &&& 3689348814741910323)
def oc3 (m : Nat) : Nat := (oc2 m >>> 4 + oc2 m) &&& 1085102592571150095
def oc4 (m : Nat) : Nat := oc3 m + oc3 m >>> 8
def oc5 (m : Nat) : Nat := oc4 m + oc4 m >>> 16
def oc6 (m : Nat) : Nat := oc5 m + oc5 m >>> 32
def pop (m : Nat) : Nat := oc6 m &&& 127
theorem pop_bd : ∀ m, m < 128 → oc1 m < 1000 ∧ oc2 m < 1000 ∧ oc3 m < 1000 ∧ oc4 m < 1000 ∧ oc5 m < 1000 ∧ oc6 m < 1000 := by decide +kernel
theorem pop_cnt : ∀ m, m < 128 → pop m = Drain7.cnt m := by decide +kernel
end Go.G

namespace Go.G
variable {P : Program} {W : World} {n : Nat} {D : List Deferred} {L : Tm} {M : List Res} {R : List Fact} {Q : Exit → Act → World → Prop} {o : Oper} {Z : World → Prop}
def wpAnyZ (Z : World → Prop) (P : Program) (ops : Array Oper) (Q : Exit → Act → World → Prop) : Nat → Array Bool → Act → World → Prop
  | 0, listed, a, w => Z w ∧ Region.ready .any ops listed = [] ∧ Q .normal a w
  | fuel + 1, listed, a, w => Z w ∧ (Region.ready .any ops listed = [] → Q .normal a w) ∧ ∀ i ∈ Region.ready .any ops listed, wpOp P ops Q i (wpAnyZ Z P ops Q fuel (listed.setIfInBounds i true)) a w
theorem wpAnyZ.any {ops : Array Oper} : ∀ {fuel : Nat} {listed : Array Bool} {a : Act} {w : World}, wpAnyZ Z P ops Q fuel listed a w → wpAny P .any ops Q fuel listed a w
  | 0, _, _, _, h => h.2
  | _ + 1, _, _, _, h => ⟨h.2.1, fun i hi => wpOp_mono (fun _ _ h' => h'.any) (h.2.2 i hi)⟩
theorem wpAnyZ.z {ops : Array Oper} {fuel : Nat} {listed : Array Bool} {a : Act} {w : World} (h : wpAnyZ Z P ops Q fuel listed a w) : Z w := by
  cases fuel with
  | zero => exact h.1
  | succ f => exact h.1
def YieldsZ (Z : World → Prop) (P : Program) (ops : Array Oper) (o : Oper) (v : Value) (a : Act) : Prop := Region.wanted o (yielded ops a.tmps) = true ∧ ∀ w, Z w → (execOp a.eval o).run P w = .ok (.value v) w
theorem YieldsZ.wpOp {ops : Array Oper} {i : Nat} {v : Value} {a : Act} (hi : ops[i]? = some o) (hy : YieldsZ Z P ops o v a) {K : Act → World → Prop} {w : World} (hz : Z w) (h : K (a.put o.dst v) w) : wpOp P ops Q i K a w := by
  unfold Go.wpOp
  simp only [hi]
  rw [if_pos hy.1]
  unfold Oper.wp
  rw [hy.2 w hz]
  exact .inl h
theorem YieldsZ.put {ops : Array Oper} {oi oj : Oper} {v : Value} {a : Act} (hy : YieldsZ Z P ops oi v a) (hsi : ∀ cs b, oi.op ≠ .select cs b) (h3 : ∀ d, oj.dst = some d → d ∉ oi.looksAt ops) (u : Value) : YieldsZ Z P ops oi v (a.put oj.dst u) := by
  refine ⟨?_, fun w hz => ?_⟩
  · rw [wanted_put oi a oj.dst u h3]; exact hy.1
  · rw [execOp_put oi hsi a oj.dst u h3]; exact hy.2 w hz
theorem wpOpZ_put {ops : Array Oper} {j : Nat} {oi oj : Oper} {v : Value} (hj : ops[j]? = some oj) (hap : oi.apart ops oj = true)
    (hsi : ∀ cs b, oi.op ≠ .select cs b) (hsj : ∀ cs b, oj.op ≠ .select cs b) {K : Act → World → Prop} {a : Act} {w : World}
    (hy : YieldsZ Z P ops oi v a) (h : wpOp P ops (NoP Q) j K (a.put oi.dst v) w) :
    wpOp P ops (NoP Q) j (fun a' w' => YieldsZ Z P ops oi v a' ∧ K (a'.put oi.dst v) w') a w := by
  obtain ⟨h1, h2, h3⟩ := Oper.apart_spec hap
  have keep := fun (b : Act) (hb : YieldsZ Z P ops oi v b) u => hb.put (oj := oj) hsi h3 u
  unfold wpOp at *
  simp only [hj] at *
  rw [wanted_put oj a oi.dst v h1] at h
  split
  · rename_i hw
    rw [if_pos hw] at h
    rcases h with h | ⟨_, a0, w0, hx⟩
    · refine .inl ?_
      unfold Oper.wp at *
      rw [execOp_put oj hsj a oi.dst v h1] at h
      generalize (execOp a.eval oj).run P w = r at h
      unfold Oper.upon at h ⊢
      split at h
      · rename_i u w'
        exact ⟨keep a hy u, by rw [← Act.put_comm a v u h2]; exact h⟩
      · rename_i w'
        exact ⟨keep a hy _, by rw [← Act.put_comm a v undef h2]; exact h⟩
      · rename_i d w'
        refine ⟨keep { a with defers := d :: a.defers } ⟨hy.1, hy.2⟩ _, ?_⟩
        rw [← Act.put_comm _ v undef h2, ← Act.put_defers]
        exact h
      · rename_i f args w'
        refine Calls.mono h fun e w'' he => ?_
        cases e with
        | returned u => exact ⟨keep a hy u, by rw [← Act.put_comm a v u h2]; exact he⟩
        | panicked c => exact he.elim
        | outgrown => obtain ⟨a1, w1, hx⟩ := he; exact hx.elim
      · refine Rows.mono h fun u w'' he => ⟨keep a hy u, by rw [← Act.put_comm a v u h2]; exact he⟩
      · exact h.elim
      · exact h.elim
    · exact hx.elim
  · rename_i hw
    rw [if_neg hw] at h
    exact ⟨keep a hy _, by rw [← Act.put_comm a v undef h2]; exact h⟩
theorem wpAnyZ_first {ops : Array Oper} {i : Nat} {oi : Oper} {v : Value} (hi : ops[i]? = some oi) (hsel : ∀ (j : Nat) (o : Oper) cs b, ops[j]? = some o → o.op ≠ .select cs b) :
    ∀ (fuel : Nat) (listed : Array Bool) (a : Act) (w : World),
      (∀ j oj, ops[j]? = some oj → j ≠ i → listed.getD j true = false → (∀ e ∈ oj.after, Region.binds .any e = true → e.on ≠ i) → oi.apart ops oj = true) →
      i ∈ Region.ready .any ops listed → YieldsZ Z P ops oi v a →
      wpAnyZ Z P ops (NoP Q) fuel (listed.setIfInBounds i true) (a.put oi.dst v) w → wpAnyZ Z P ops (NoP Q) (fuel + 1) listed a w := by
  intro fuel
  induction fuel with
  | zero =>
    intro listed a w _ hr hy H
    refine ⟨H.1, fun h => (by rw [h] at hr; cases hr), fun j hj => ?_⟩
    by_cases hji : j = i
    · subst hji; exact hy.wpOp hi H.1 H
    · have := ready_mono hj hji
      rw [H.2.1] at this
      cases this
  | succ fuel ih =>
    intro listed a w hfree hr hy H
    refine ⟨H.1, fun h => (by rw [h] at hr; cases hr), fun j hj => ?_⟩
    by_cases hji : j = i
    · subst hji; exact hy.wpOp hi H.1 H
    · have h1 := H.2.2 j (ready_mono hj hji)
      obtain ⟨hjun, oj, hoj, hall⟩ := mem_ready.1 hj
      have hnot : ∀ e ∈ oj.after, Region.binds .any e = true → e.on ≠ i := fun e he hb heq => by
        have g1 := hall e he hb
        have g0 := (mem_ready.1 hr).1
        rw [heq] at g1
        rw [getD_both g0] at g1; cases g1
      have h2 := wpOpZ_put hoj (hfree j oj hoj hji hjun hnot) (fun cs b => hsel i oi cs b hi) (fun cs b => hsel j oj cs b hoj) hy h1
      refine wpOp_mono (fun a' w' h3 => ih (listed.setIfInBounds j true) a' w' (fun k ok hk hki hun hno => ?_) (ready_mono hr (Ne.symm hji)) h3.1 ?_) h2
      · refine hfree k ok hk hki ?_ hno
        by_cases hjk : j = k
        · subst hjk; exact hjun
        · rw [getD_set_ne true hjk] at hun; exact hun
      · rw [Array.setIfInBounds_comm _ _ hji]
        exact h3.2
def wpListZ (Z : World → Prop) (P : Program) (ops : Array Oper) (Q : Exit → Act → World → Prop) : List Oper → Act → World → Prop
  | [], a, w => Z w ∧ Q .normal a w
  | o :: rest, a, w => Z w ∧ if Region.wanted o (yielded ops a.tmps) then o.wp P a w (wpListZ Z P ops Q rest) Q ∨ (o.asks P a w ∧ LetsOut Q) else wpListZ Z P ops Q rest (a.put o.dst undef) w
theorem oz_nil {ops : Array Oper} (hz : ∀ w, St W M R w → Z w) (h : Imp W n D L M R (Q .normal)) : Imp W n D L M R (wpListZ Z P ops Q []) := fun a w h1 h2 h3 => ⟨hz w h3, h a w h1 h2 h3⟩
theorem oz_lift {ops : Array Oper} {rest : List Oper} (hz : ∀ w, St W M R w → Z w) (h : Imp W n D L M R (wpList P ops (Exit.then (wpListZ Z P ops (NoP Q) rest) (NoP Q)) [o])) : Imp W n D L M R (wpListZ Z P ops (NoP Q) (o :: rest)) := by
  intro a w h1 h2 h3
  refine ⟨hz w h3, ?_⟩
  have := h a w h1 h2 h3
  unfold wpList at this
  split
  · rename_i hw
    rw [if_pos hw] at this
    rcases this with h' | ⟨_, a0, w0, h'⟩
    · refine .inl ?_
      unfold Oper.wp at *
      generalize (execOp a.eval o).run P w = r at h'
      unfold Oper.upon at h' ⊢
      split at h'
      · exact h'
      · exact h'
      · exact h'
      · refine Calls.mono h' fun e w'' he => ?_
        cases e with
        | returned u => exact he
        | panicked c => exact he.elim
        | outgrown => obtain ⟨a1, w1, hx⟩ := he; exact hx.elim
      · exact h'
      · exact h'.elim
      · exact h'.elim
    · exact h'.elim
  · rename_i hw
    rw [if_neg hw] at this
    exact this
theorem wpAnyZ_tail {ops : Array Oper} (hb : backB ops.toList = true) : ∀ (k t fuel : Nat) (listed : Array Bool) (a : Act) (w : World), t + k = ops.size → k ≤ fuel → listed.size = ops.size → Closed ops listed →
    (∀ i, i < t → listed.getD i false = true) → (∀ i, t ≤ i → i < ops.size → listed.getD i true = false) →
    (∀ listed', Closed ops listed' → ∀ i o, t ≤ i → ops[i]? = some o → (∀ e ∈ o.after, Region.binds .any e = true → listed'.getD e.on false = true) → ∀ j, j < i → listed'.getD j false = true) →
    wpListZ Z P ops Q (ops.toList.drop t) a w → wpAnyZ Z P ops Q fuel listed a w := by
  intro k
  induction k with
  | zero =>
    intro t fuel listed a w htk _ hsz _ hl _ _ h
    have hdrop : ops.toList.drop t = [] := List.drop_eq_nil_of_le (by simp; omega)
    rw [hdrop] at h
    have hready : Region.ready .any ops listed = [] := by
      apply List.eq_nil_iff_forall_not_mem.2
      intro i hi
      obtain ⟨h0, o, ho, _⟩ := mem_ready.1 hi
      have hlt := (Array.getElem?_eq_some_iff.1 ho).1
      have := hl i (by omega)
      rw [getD_both h0] at this; cases this
    cases fuel with
    | zero => exact ⟨h.1, hready, h.2⟩
    | succ f => exact ⟨h.1, fun _ => h.2, fun i hi => by rw [hready] at hi; cases hi⟩
  | succ k ih =>
    intro t fuel listed a w htk hkf hsz hcl hl hu hm h
    have ht : t < ops.size := by omega
    obtain ⟨fuel, rfl⟩ : ∃ f, fuel = f + 1 := ⟨fuel - 1, by omega⟩
    have hot : ops[t]? = some ops[t] := Array.getElem?_eq_getElem ht
    have hback : ∀ i o, ops[i]? = some o → ∀ e ∈ o.after, Region.binds .any e = true → e.on < i := by
      intro i o ho e he hbi
      have hlt := (Array.getElem?_eq_some_iff.1 ho).1
      have := List.all_eq_true.1 hb i (List.mem_range.2 (by simpa using hlt))
      rw [show ops.toList[i]? = some o from by simpa using ho] at this
      have := Array.all_eq_true_iff_forall_mem.1 this e he
      simpa [hbi] using this
    have htr : t ∈ Region.ready .any ops listed := mem_ready.2 ⟨hu t (Nat.le_refl _) ht, _, hot, fun e he hbi => hl _ (hback t _ hot e he hbi)⟩
    have hz : Z w := by
      have ht2 : t < ops.toList.length := by simpa using ht
      rw [List.drop_eq_getElem_cons ht2] at h; exact h.1
    refine ⟨hz, fun h0 => (by rw [h0] at htr; cases htr), fun i hi => ?_⟩
    obtain ⟨h0, o, ho, hp⟩ := mem_ready.1 hi
    have hlt := (Array.getElem?_eq_some_iff.1 ho).1
    have hge : t ≤ i := by
      rcases Nat.lt_or_ge i t with h' | h'
      · have := hl i h'; rw [getD_both h0] at this; cases this
      · exact h'
    have hit : i = t := by
      rcases Nat.lt_or_ge t i with h' | h'
      · have := hm listed hcl i o hge ho hp t h'
        rw [getD_both (hu t (Nat.le_refl _) ht)] at this; cases this
      · omega
    subst hit
    have hoi : o = ops[i] := Option.some.inj (ho.symm.trans hot)
    have hdrop : ops.toList.drop i = o :: ops.toList.drop (i + 1) := by
      rw [List.drop_eq_getElem_cons (by simpa using ht)]; simp [hoi]
    rw [hdrop] at h
    have hcl' : Closed ops (listed.setIfInBounds i true) := by
      intro j oj hj hlj e he hbi
      by_cases hij : i = j
      · subst hij
        have : oj = o := Option.some.inj (hj.symm.trans ho)
        subst this
        exact getD_set_true (hp e he hbi)
      · rw [getD_set_ne false hij] at hlj
        exact getD_set_true (hcl j oj hj hlj e he hbi)
    have hih := fun a w => ih (i + 1) fuel (listed.setIfInBounds i true) a w (by omega) (by omega) (by simp [hsz]) hcl'
      (fun j hj => by
        by_cases hij : i = j
        · subst hij; simp [hsz, ht]
        · rw [getD_set_ne false hij]; exact hl j (by omega))
      (fun j hj hj' => by rw [getD_set_ne true (by omega)]; exact hu j (by omega) hj')
      (fun l' hc' j oj hj => hm l' hc' j oj (by omega))
    unfold wpOp
    simp only [ho]
    unfold wpListZ at h
    replace h := h.2
    split
    · rename_i hw
      rw [if_pos hw] at h
      exact h.imp (Oper.wp_mono fun a w => hih a w) id
    · rename_i hw
      rw [if_neg hw] at h
      exact hih _ _ h
theorem parZ_any {free tail : List Oper} {ss : List Spc} (hZ : ∀ X F w, St W (X ++ M) (F ++ R) w → Z w) (hpb : parB free tail = true) (hl : ss.length = free.length) (hfr : ∀ o ∈ free, look L (o.dst.getD 1000000) = none) (hL : LateOK (free ++ tail).toArray ss) (hab : ∀ (i : Nat) (s : Spc) (c : List PanicEntry), ss[i]? = some s → s.ab = some c → Imp W n D L M R (Q (.panic c)))
    (hstep : ∀ i o s, free[i]? = some o → ss[i]? = some s → Step1 P W n M R (free ++ tail).toArray ss i o s (detL (free.take i) (ss.take i) L))
    (hfin : Fin W n D (wpListZ Z P (free ++ tail).toArray Q tail) free ss L M R) :
    ∀ (fuel : Nat) (listed : Array Bool) (a : Act) (w : World), J W n D L M R (free ++ tail).toArray free ss listed a w → unl (free ++ tail).length listed ≤ fuel → wpAnyZ Z P (free ++ tail).toArray Q fuel listed a w := by
  simp only [parB, Bool.and_eq_true] at hpb
  obtain ⟨⟨⟨⟨hns, hfree⟩, hnd0⟩, hback⟩, htail⟩ := hpb
  have hnd := injB_sound hnd0
  have hmN : free.length ≤ (free ++ tail).length := by simp
  have hmask : ∀ listed', Closed (free ++ tail).toArray listed' → ∀ i o, free.length ≤ i → (free ++ tail).toArray[i]? = some o → (∀ e ∈ o.after, Region.binds .any e = true → listed'.getD e.on false = true) → ∀ j, j < i → listed'.getD j false = true := by
    intro listed' hc i o hi ho hp j hj
    have hlt : i < (free ++ tail).length := by simpa using (Array.getElem?_eq_some_iff.1 ho).1
    have h1 := List.all_eq_true.1 htail i (List.mem_range.2 hlt)
    simp only [Bool.or_eq_true] at h1
    rcases h1 with h1 | h1
    · have : i < free.length := by simpa using h1
      omega
    · have h2 := List.all_eq_true.1 h1 j (List.mem_range.2 hj)
      exact (masks_sound hc (free ++ tail) [] (fun j => by simp) (fun i hi => by simp at hi)).1 i o (Nat.zero_le _) ho hp j h2
  have hbk : ∀ i o, (free ++ tail).toArray[i]? = some o → ∀ e ∈ o.after, Region.binds .any e = true → e.on < i := by
    intro i o ho e he hbi
    have hlt : i < (free ++ tail).length := by simpa using (Array.getElem?_eq_some_iff.1 ho).1
    have := List.all_eq_true.1 hback i (List.mem_range.2 hlt)
    rw [show (free ++ tail)[i]? = some o from by simpa using ho] at this
    have := Array.all_eq_true_iff_forall_mem.1 this e he
    simpa [hbi] using this
  intro fuel
  induction fuel with
  | zero =>
    intro listed a w hJ hu
    have hall : ∀ i, i < free.length → listed.getD i false = true := by
      intro i hi
      cases h : listed.getD i true with
      | true =>
        have : i < listed.size := by rw [hJ.size]; simp; omega
        simp [this] at h ⊢; exact h
      | false =>
        have hsz : listed.size = (free ++ tail).length := by rw [hJ.size]; simp
        have := unl_set (N := (free ++ tail).length) (i := i) (by omega) hsz h
        omega
    obtain ⟨g, hg, hS⟩ := hJ.vals
    refine wpAnyZ_tail (by simpa using hback) ((free ++ tail).length - free.length) free.length 0 listed a w (by simp) (Nat.le_trans (unl_ge (fun i h1 h2 => hJ.late i h1 (by simpa using h2))) hu) hJ.size hJ.closed hall (fun i h1 h2 => hJ.late i h1 h2) hmask ?_
    have hd : ((free ++ tail).toArray).toList.drop free.length = tail := by simp
    rw [hd]
    have hsame : resOf ss listed g free.length = lastOf ss g free.length := by
      refine flatMap_same _ _ _ fun j hj => ?_
      have := List.mem_range.1 hj
      rw [hall j this, if_pos rfl]
      cases hsj : ss[j]? with
      | none => rfl
      | some sj =>
        unfold Spc.rsL Spc.last
        cases hl2 : sj.late with
        | none => simp [hl2]
        | some kr =>
          obtain ⟨k, r⟩ := kr
          have hk := (hL j sj k r hsj hl2).1
          simp [hl2, hall k (by omega)]
    have hsamf : ∀ (f : Spc → Value → List Fact), ((List.range free.length).flatMap fun i => if listed.getD i false then (match ss[i]? with | some s => f s (g i) | none => []) else []) = ((List.range free.length).flatMap fun i => if (Array.replicate free.length true).getD i false then (match ss[i]? with | some s => f s (g i) | none => []) else []) := by
      intro f
      refine flatMap_same _ _ _ fun j hj => ?_
      have := List.mem_range.1 hj
      rw [hall j this]; simp [this]
    refine fin_use free ss L M R hl hfin g a w hJ.defers hJ.frame hnd (fun i o s e1 e2 => hg i o s e1 e2 (hall i (List.getElem?_eq_some_iff.1 e1).1)) ?_
    rw [hsame] at hS
    have hf : fctOf ss listed g free.length = fctOf ss (Array.replicate free.length true) g free.length := hsamf Spc.fs
    rw [hf] at hS
    exact hS
  | succ fuel ih =>
    intro listed a w hJ hu
    by_cases hall : ∀ i, i < free.length → listed.getD i false = true
    · obtain ⟨g, hg, hS⟩ := hJ.vals
      refine wpAnyZ_tail (by simpa using hback) ((free ++ tail).length - free.length) free.length (fuel + 1) listed a w (by simp) (Nat.le_trans (unl_ge (fun i h1 h2 => hJ.late i h1 (by simpa using h2))) hu) hJ.size hJ.closed hall (fun i h1 h2 => hJ.late i h1 h2) hmask ?_
      have hd : ((free ++ tail).toArray).toList.drop free.length = tail := by simp
      rw [hd]
      have hsame : resOf ss listed g free.length = lastOf ss g free.length := by
        refine flatMap_same _ _ _ fun j hj => ?_
        have := List.mem_range.1 hj
        rw [hall j this, if_pos rfl]
        cases hsj : ss[j]? with
        | none => rfl
        | some sj =>
          unfold Spc.rsL Spc.last
          cases hl2 : sj.late with
          | none => simp [hl2]
          | some kr =>
            obtain ⟨k, r⟩ := kr
            have hk := (hL j sj k r hsj hl2).1
            simp [hl2, hall k (by omega)]
      have hsamf : ∀ (f : Spc → Value → List Fact), ((List.range free.length).flatMap fun i => if listed.getD i false then (match ss[i]? with | some s => f s (g i) | none => []) else []) = ((List.range free.length).flatMap fun i => if (Array.replicate free.length true).getD i false then (match ss[i]? with | some s => f s (g i) | none => []) else []) := by
        intro f
        refine flatMap_same _ _ _ fun j hj => ?_
        have := List.mem_range.1 hj
        rw [hall j this]; simp [this]
      refine fin_use free ss L M R hl hfin g a w hJ.defers hJ.frame hnd (fun i o s e1 e2 => hg i o s e1 e2 (hall i (List.getElem?_eq_some_iff.1 e1).1)) ?_
      rw [hsame] at hS
      have hf : fctOf ss listed g free.length = fctOf ss (Array.replicate free.length true) g free.length := hsamf Spc.fs
      rw [hf] at hS
      exact hS
    · have hex : ∃ i, i < free.length ∧ listed.getD i false = false := by
        apply Classical.byContradiction
        intro hne
        refine hall fun i hi => ?_
        cases h : listed.getD i false
        · exact absurd ⟨i, hi, h⟩ hne
        · rfl
      obtain ⟨k, ⟨hk, hkf⟩, hkm⟩ := least hex
      have hkt : listed.getD k true = false := by
        have : k < listed.size := by rw [hJ.size]; simp; omega
        simp [this] at hkf ⊢; exact hkf
      have hready : k ∈ Region.ready .any (free ++ tail).toArray listed := by
        refine mem_ready.2 ⟨hkt, (free ++ tail)[k]'(by simp; omega), by simp [List.getElem?_eq_getElem (show k < (free ++ tail).length by simp; omega)], fun e he hbi => ?_⟩
        have hlt := hbk k _ (by simp [List.getElem?_eq_getElem (show k < (free ++ tail).length by simp; omega)]) e he hbi
        cases h : listed.getD e.on false
        · exact absurd ⟨by omega, h⟩ (hkm e.on hlt)
        · rfl
      refine ⟨(by obtain ⟨g, _, hS⟩ := hJ.vals; exact hZ _ _ w hS), fun h0 => (by rw [h0] at hready; cases hready), fun i hi => ?_⟩
      obtain ⟨h0, o, hoi, hp⟩ := mem_ready.1 hi
      have him : i < free.length := by
        rcases Nat.lt_or_ge i free.length with h' | h'
        · exact h'
        · have := hmask listed hJ.closed i o h' hoi hp k (by omega)
          rw [hkf] at this; cases this
      refine par_step (by simp only [parB, Bool.and_eq_true]; exact ⟨⟨⟨⟨hns, hfree⟩, hnd0⟩, hback⟩, htail⟩) hl hfr hL hab hstep hJ hi him _ fun a' w' hJ' => ih _ _ _ hJ' ?_
      have hsz : listed.size = (free ++ tail).length := by rw [hJ.size]; simp
      have := unl_set (N := (free ++ tail).length) (i := i) (by have := (List.getElem?_eq_some_iff.1 (show (free ++ tail)[i]? = some o by simpa using hoi)).1; omega) hsz h0
      omega
theorem floatZ_any {fl : List Nat} {m : Nat} {l : List Oper} : ∀ (fuel : Nat) (listed : Array Bool) (a : Act) (w : World), (∀ i ∈ fl, listed.getD i false = true) → wpAnyZ Z P (floatL fl m l).toArray Q fuel listed a w → wpAnyZ Z P l.toArray Q fuel listed a w
  | 0, listed, a, w, hi, h => by
    refine ⟨h.1, ?_, h.2.2⟩
    cases hr : Region.ready .any l.toArray listed with
    | nil => rfl
    | cons x xs =>
      have : x ∈ Region.ready .any (floatL fl m l).toArray listed := (float_ready hi).2 (by rw [hr]; simp)
      rw [h.2.1] at this; cases this
  | fuel + 1, listed, a, w, hi, h => by
    refine ⟨h.1, fun hr => h.2.1 ?_, fun j hj => float_op (wpOp_mono (fun a' w' h' => floatZ_any fuel _ a' w' (fun i hi' => getD_set_true (hi i hi')) h') (h.2.2 j ((float_ready hi).2 hj)))⟩
    cases hr' : Region.ready .any (floatL fl m l).toArray listed with
    | nil => rfl
    | cons x xs =>
      have : x ∈ Region.ready .any l.toArray listed := (float_ready hi).1 (by rw [hr']; simp)
      rw [hr] at this; cases this
def FlZ (Z : World → Prop) (P : Program) (n : Nat) (L : Tm) (free : List Oper) (ss : List Spc) : List Nat → Prop
  | [] => True
  | i :: r => (∃ (o : Oper) (v : Value) (d : Nat), free[i]? = some o ∧ ss[i]? = some (Spc.q v) ∧ o.guard = none ∧ o.dst = some d ∧ Nat.blt d n = true ∧ ∀ a, FSat n (detL (free.take i) (ss.take i) L) a → ∀ w, Z w → (execOp a.eval o).run P w = .ok (.value v) w) ∧ FlZ Z P n L free ss r
theorem FlZ.at {free : List Oper} {ss : List Spc} : ∀ {fl : List Nat}, FlZ Z P n L free ss fl → ∀ i ∈ fl, ∃ (o : Oper) (v : Value) (d : Nat), free[i]? = some o ∧ ss[i]? = some (Spc.q v) ∧ o.guard = none ∧ o.dst = some d ∧ Nat.blt d n = true ∧ ∀ a, FSat n (detL (free.take i) (ss.take i) L) a → ∀ w, Z w → (execOp a.eval o).run P w = .ok (.value v) w
  | [], _, _, h => by cases h
  | j :: r, ⟨h1, h2⟩, i, hi => by
    rcases List.mem_cons.1 hi with rfl | hi
    · exact h1
    · exact FlZ.at h2 i hi
theorem floatZ_all {fl : List Nat} {m : Nat} {l : List Oper} (hZ : ∀ X F w, St W (X ++ M) (F ++ R) w → Z w) (hml : m ≤ l.length) {ss : List Spc} (hpb : parB ((floatL fl m l).take m) ((floatL fl m l).drop m) = true) (hlen : ss.length = ((floatL fl m l).take m).length) (hfr : ∀ o ∈ (floatL fl m l).take m, look L (o.dst.getD 1000000) = none) (hL : LateOK (floatL fl m l).toArray ss)
    (hab : ∀ (i : Nat) (s : Spc) (c : List PanicEntry), ss[i]? = some s → s.ab = some c → Imp W n D L M R (NoP Q (.panic c)))
    (hstep : ∀ i o s, ((floatL fl m l).take m)[i]? = some o → ss[i]? = some s → Step1 P W n M R (floatL fl m l).toArray ss i o s (detL (((floatL fl m l).take m).take i) (ss.take i) L))
    (hfin : Fin W n D (wpListZ Z P (floatL fl m l).toArray (NoP Q) ((floatL fl m l).drop m)) ((floatL fl m l).take m) ss L M R)
    (hfl : FlZ Z P n L ((floatL fl m l).take m) ss fl) (hns : Region.noSelect l.toArray = true) (hbk : backB l = true) (htl : tailF fl (masks l []) m l.length = true) (hfs : freesB l fl = true) :
    ∀ (fuel : Nat) (listed : Array Bool) (a : Act) (w : World), J W n D L M R (floatL fl m l).toArray ((floatL fl m l).take m) ss listed a w → unl l.length listed ≤ fuel → wpAnyZ Z P l.toArray (NoP Q) fuel listed a w := by
  have hflat := hfl.at
  have hFat := floatL_at fl m l
  have hFlen := floatL_len fl m l
  generalize hF : floatL fl m l = F at *
  have hsplit : F.take m ++ F.drop m = F := List.take_append_drop m F
  have hmF : (F.take m).length = m := by rw [List.length_take]; omega
  have hlow : ∀ j, j < m → F[j]? = l[j]? := fun j hj => by
    rw [hFat j]; cases l[j]? with
    | none => rfl
    | some o => simp [hj]
  have hfree : ∀ j, j < m → (F.take m)[j]? = l[j]? := fun j hj => by rw [List.getElem?_take, if_pos hj, hlow j hj]
  have hlate : LateOK (F.take m ++ F.drop m).toArray ss := by rw [hsplit]; exact hL
  have hst' : ∀ i o s, (F.take m)[i]? = some o → ss[i]? = some s → Step1 P W n M R (F.take m ++ F.drop m).toArray ss i o s (detL ((F.take m).take i) (ss.take i) L) := by rw [hsplit]; exact hstep
  have hclosed : ∀ listed, Closed F.toArray listed → Closed l.toArray listed := fun listed hc j o ho hj e he hb => by
    have ho : l[j]? = some o := by simpa using ho
    refine hc j (if j < m then o else addE fl o) (by rw [List.getElem?_toArray, hFat, ho]; rfl) hj e ?_ hb
    split
    · exact he
    · unfold addE; exact Array.mem_append_left _ he
  have hback : ∀ i o, l[i]? = some o → ∀ e ∈ o.after, Region.binds .any e = true → e.on < i := by
    intro i o ho e he hbi
    have hlt : i < l.length := (List.getElem?_eq_some_iff.1 ho).1
    have := List.all_eq_true.1 hbk i (List.mem_range.2 hlt)
    rw [ho] at this
    have := Array.all_eq_true_iff_forall_mem.1 this e he
    simpa [hbi] using this
  intro fuel
  induction fuel with
  | zero =>
    intro listed a w hJ hu
    have hsz : listed.size = l.length := by rw [hJ.size]; simp [hFlen]
    have hall : ∀ i ∈ fl, listed.getD i false = true := fun i hi => by
      obtain ⟨o, v, d, ho, _⟩ := hflat i hi
      have hi' : i < m := by have := (List.getElem?_eq_some_iff.1 ho).1; omega
      cases h : listed.getD i true with
      | true =>
        have : i < listed.size := by omega
        simp [this] at h ⊢; exact h
      | false =>
        have := unl_set (N := l.length) (i := i) (by omega) hsz h
        omega
    refine floatZ_any (fl := fl) (m := m) 0 listed a w hall ?_
    rw [hF, ← hsplit]
    replace hJ : J W n D L M R (F.take m ++ F.drop m).toArray (F.take m) ss listed a w := by rw [hsplit]; exact hJ
    exact parZ_any hZ hpb hlen hfr hlate hab hst' (by rw [hsplit]; exact hfin) 0 listed a w hJ (by rw [hsplit, hFlen]; exact hu)
  | succ fuel ih =>
    intro listed a w hJ hu
    have hsz : listed.size = l.length := by rw [hJ.size]; simp [hFlen]
    have hboth : ∀ j, j < l.length → listed.getD j true = listed.getD j false := fun j hj => by
      have : j < listed.size := by omega
      simp [this]
    by_cases hall : ∀ i ∈ fl, listed.getD i false = true
    · refine floatZ_any (fl := fl) (m := m) (fuel + 1) listed a w hall ?_
      rw [hF, ← hsplit]
      replace hJ : J W n D L M R (F.take m ++ F.drop m).toArray (F.take m) ss listed a w := by rw [hsplit]; exact hJ
      exact parZ_any hZ hpb hlen hfr hlate hab hst' (by rw [hsplit]; exact hfin) (fuel + 1) listed a w hJ (by rw [hsplit, hFlen]; exact hu)
    · by_cases hrd : ∃ i ∈ fl, i ∈ Region.ready .any l.toArray listed
      · obtain ⟨i, hi, hir⟩ := hrd
        obtain ⟨o, v, d, ho, hs, hg, hdst, hdn, hpure⟩ := hflat i hi
        have him : i < m := by have := (List.getElem?_eq_some_iff.1 ho).1; omega
        have hol : l[i]? = some o := by rw [← hfree i him]; exact ho
        obtain ⟨h0, o', ho', hp⟩ := mem_ready.1 hir
        have ho' : l[i]? = some o' := by simpa using ho'
        rw [hol] at ho'; cases ho'
        have hJ' : J W n D L M R (F.take m ++ F.drop m).toArray (F.take m) ss listed a w := by rw [hsplit]; exact hJ
        obtain ⟨a', g, f1, hex, hgv, hS⟩ := frame_at hpb hlen hfr hlate hab hst' hJ' ho hp
        have hirF : i ∈ Region.ready .any (F.take m ++ F.drop m).toArray listed := by
          rw [hsplit]
          exact mem_ready.2 ⟨h0, o, by rw [List.getElem?_toArray, hlow i him]; exact hol, hp⟩
        have hy : YieldsZ Z P l.toArray o v a := ⟨by simp [Region.wanted, hg], fun w hz => by rw [hex]; exact hpure a' f1 w hz⟩
        refine wpAnyZ_first (i := i) (oi := o) (v := v) (by simpa using hol) (Region.noSelect_spec hns) fuel listed a w (freeAt_spec hol (List.all_eq_true.1 hfs i hi) hp) hir hy ?_
        · have hnd : Inj (F.take m) := by
            simp only [parB, Bool.and_eq_true] at hpb
            exact injB_sound hpb.1.1.2
          have hset : (resOf ss listed g (F.take m).length ++ M).Perm (restOf ss listed g (F.take m).length i ++ M) := by
            refine List.Perm.append_right M (List.Perm.of_eq ?_)
            refine flatMap_same _ _ _ fun j hj => ?_
            by_cases e : j = i
            · subst e
              have : listed.getD j false = false := by rw [← hboth j (by omega)]; exact h0
              rw [if_pos rfl, this, hs]; rfl
            · rw [if_neg e]
          have hJn := hJ.next (v := v) (o := o) (s := Spc.q v) (i := i) (w' := w) hnd hfr (by simp [hFlen, hmF]; omega) (by rw [← hsplit]; exact hirF) (by rw [List.getElem?_toArray, hlow i him]; exact hol) ho hs (by rw [hdst]; exact hdn) rfl rfl hL hgv (hS.perm hset)
          refine ih _ _ _ hJn ?_
          have := unl_set (N := l.length) (i := i) (by omega) hsz h0
          omega
      · have hex : ∃ i, (i ∈ fl ∧ listed.getD i false = false) := by
          apply Classical.byContradiction
          intro hne
          refine hall fun i hi => ?_
          cases h : listed.getD i false
          · exact absurd ⟨i, hi, h⟩ hne
          · rfl
        obtain ⟨k, ⟨hk, hkf⟩, hkm⟩ := least hex
        obtain ⟨ok, vk, dk, hok, _⟩ := hflat k hk
        have hkm' : k < m := by have := (List.getElem?_eq_some_iff.1 hok).1; omega
        have hokl : l[k]? = some ok := by rw [← hfree k hkm']; exact hok
        have hlt : ∀ j, j ∈ Region.ready .any l.toArray listed → j < m := by
          intro j hj
          rcases Nat.lt_or_ge j m with h | h
          · exact h
          · exfalso
            obtain ⟨j0, o, hoj, hp⟩ := mem_ready.1 hj
            have hoj' : l[j]? = some o := by simpa using hoj
            have hjl : j < l.length := (List.getElem?_eq_some_iff.1 hoj').1
            have h1 := List.all_eq_true.1 htl j (List.mem_range.2 hjl)
            simp only [Bool.or_eq_true] at h1
            have hnon : ∀ t, t < j → t ∉ fl → listed.getD t false = true := fun t ht hnf => by
              rcases h1 with h1 | h1
              · have : j < m := by simpa using h1
                omega
              · have h2 := List.all_eq_true.1 h1 t (List.mem_range.2 ht)
                simp only [Bool.or_eq_true, List.contains_eq_mem, decide_eq_true_eq] at h2
                rcases h2 with h2 | h2
                · exact absurd h2 hnf
                · exact (masks_sound (ops := l.toArray) (hclosed listed hJ.closed) l [] (fun j => by simp) (fun i hi => by simp at hi)).1 j o (Nat.zero_le _) hoj hp t h2
            refine hrd ⟨k, hk, mem_ready.2 ⟨by rw [hboth k (by omega)]; exact hkf, ok, by simpa using hokl, fun e he hb => ?_⟩⟩
            have hek := hback k ok hokl e he hb
            by_cases hef : e.on ∈ fl
            · cases h : listed.getD e.on false
              · exact absurd ⟨hef, h⟩ (hkm e.on hek)
              · rfl
            · exact hnon e.on (by omega) hef
        refine ⟨(by obtain ⟨g, _, hS⟩ := hJ.vals; exact hZ _ _ w hS), fun hr => ?_, fun j hj => ?_⟩
        · exfalso
          have hex2 : ∃ t, t < l.length ∧ listed.getD t false = false := ⟨k, by omega, hkf⟩
          obtain ⟨t, ⟨ht, htf⟩, htm⟩ := least hex2
          have : t ∈ Region.ready .any l.toArray listed := mem_ready.2 ⟨by rw [hboth t ht]; exact htf, l[t], by simp, fun e he hb => by
            have hlt2 := hback t l[t] (List.getElem?_eq_getElem ht) e he hb
            cases h : listed.getD e.on false
            · exact absurd ⟨by omega, h⟩ (htm e.on hlt2)
            · rfl⟩
          rw [hr] at this; cases this
        · have hjm := hlt j hj
          obtain ⟨j0, o, hoj, hp⟩ := mem_ready.1 hj
          have hoj' : l[j]? = some o := by simpa using hoj
          refine float_op (fl := fl) (m := m) ?_
          rw [hF, ← hsplit]
          replace hJ : J W n D L M R (F.take m ++ F.drop m).toArray (F.take m) ss listed a w := by rw [hsplit]; exact hJ
          refine par_step hpb hlen hfr hlate hab hst' hJ (mem_ready.2 ⟨j0, o, ?_, hp⟩) (by omega) _ fun a' w' hJ' => ih _ _ _ (by rw [hsplit] at hJ'; exact hJ') ?_
          · rw [List.getElem?_toArray, hsplit, hlow j hjm]; exact hoj'
          · have := unl_set (N := l.length) (i := j) (by have := (List.getElem?_eq_some_iff.1 hoj').1; omega) hsz j0
            omega
theorem float_load {o : Oper} {T B : TypeId} {x : Operand} {b : Nat} {vs : List Value} {d : TypeDesc} {i : TypeInfo} (ho : o.op = .load T x) (hT : P.underlying T = some d) (hd : aggD d = true) (hi : P.info? T = some i) (hx : ev L x = some (pt b 0)) (hu : vs.length = i.size) (hz : ∀ w, Z w → w.heap[b]? = some (.cells vs.toArray B (0, 0))) : ∀ a, FSat n L a → ∀ w, Z w → (execOp a.eval o).run P w = .ok (.value (.agg vs.toArray)) w := fun a ha w h => by
  have hs : St w [bx b B vs] [] w := ⟨rfl, rfl, rfl, [(b, .cells vs.toArray B (0, 0))], ⟨[(b, .cells vs.toArray B (0, 0))], [], rfl, rfl, rfl⟩, ⟨by simp [keys], fun p hp => by
    have : p = (b, .cells vs.toArray B (0, 0)) := by simpa using hp
    subst this; exact hz w h⟩, fun φ hφ => by cases hφ⟩
  have hagg := run_isAgg' (w := w) hT
  rw [hd] at hagg
  have hl := run_loadCells_bx (P := P) (off := 0) (k := i.size) hs (List.mem_singleton.2 rfl) hu (fun j _ => by rw [Nat.zero_add])
  simp [execOp, ho, ha.ev hx, Instr.loadAt, pt, Instr.sureAddr, loadVar, hagg, run_sizeOf' hi, hl]
theorem float_mv {o : Oper} {x : Operand} {v : Value} (ho : o.op = .move x) (hx : ev L x = some v) : ∀ a, FSat n L a → ∀ w, Z w → (execOp a.eval o).run P w = .ok (.value v) w := fun a h w _ => float_move ho hx a h w
theorem float_field {o : Oper} {T : TypeId} {x : Operand} {b off j : Nat} {fs : Array Field} {f : Field} {i : TypeInfo} (ho : o.op = .fieldAddr T x j) (hT : P.underlying T = some (.struct fs)) {ft : TypeId} (hi : P.info? ft = some i) (hf : fs[j]? = some f) (hft : f.type = ft) (hz : Nat.beq i.size 0 = false)
    (hx : ev L x = some (pt b off)) : ∀ a, FSat n L a → ∀ w, Z w → (execOp a.eval o).run P w = .ok (.value (pt b (off + f.offset))) w := fun a h1 w _ => by
  subst hft
  have hz' : ¬ i.size = 0 := fun e => by rw [e] at hz; cases hz
  simp [execOp, ho, h1.ev hx, Instr.fieldAt, pt, run_underlying hT, hf, Instr.sureAddr, fieldPlace, run_sizeOf' hi, hz', add_at]
end Go.G
