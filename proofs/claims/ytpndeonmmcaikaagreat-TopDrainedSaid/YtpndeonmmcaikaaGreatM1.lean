/- Part 1 of 5 of what the proofs of this seat stand on: a small logic for walks, what the functions come to, and the walks themselves. No condition of its own. -/
import Derived.WalkKit
import Derived.WalkSpells
import Derived.Deep.Quiet
import Derived.IntWalk
import Derived.Test.YtpndeonmmcaikaaGreatProg
import Derived.Laws.AppendOwn
import Derived.Scope
import Derived.Defers
import Derived.Recover
import Derived.RangeFuncSeq
import Derived.DeepKeys5
import Derived.WideKeyMaps
import Derived.Laws.MakeOwn
import Derived.Laws.CopyRow
set_option linter.unusedVariables false
set_option linter.unusedSimpArgs false
set_option linter.unusedSectionVars false
namespace Go.G
abbrev Sub := List (Nat × Obj)
abbrev Res := Sub → Prop
abbrev View := Nat → Option Obj
abbrev Fact := View → Prop
def keys (s : Sub) : List Nat := s.map (·.1)
@[simp] theorem keys_nil : keys [] = [] := rfl
@[simp] theorem keys_append (a b : Sub) : keys (a ++ b) = keys a ++ keys b := by simp [keys]
def Sep : List Res → Sub → Prop
  | [], s => s = []
  | r :: M, s => ∃ s1 s2, s = s1 ++ s2 ∧ r s1 ∧ Sep M s2
structure Owns (w : World) (s : Sub) : Prop where
  nodup : (keys s).Nodup
  at_ : ∀ p ∈ s, w.heap[p.1]? = some p.2
def vw (s : Sub) (w : World) : View := fun b => if b ∈ keys s then none else w.heap[b]?
def Le (V V' : View) : Prop := ∀ b o, V b = some o → V' b = some o
def hold (φ : Fact) (V : View) : Prop := ∀ V', Le V V' → φ V'
theorem Le.refl (V : View) : Le V V := fun _ _ h => h
theorem Le.trans {A B C : View} (h : Le A B) (k : Le B C) : Le A C := fun b o x => k b o (h b o x)
theorem hold.mono {φ : Fact} {V V' : View} (h : hold φ V) (hl : Le V V') : hold φ V' := fun V'' k => h V'' (hl.trans k)
structure St (W : World) (M : List Res) (R : List Fact) (w : World) : Prop where
  os : w.os = W.os
  tape : w.tape = W.tape
  output : w.output = W.output
  mem : ∃ s, Sep M s ∧ Owns w s ∧ ∀ φ ∈ R, hold φ (vw s w)
def full (w : World) : View := fun b => w.heap[b]?
theorem vw_le (s : Sub) (w : World) : Le (vw s w) (full w) := by
  intro b o h
  unfold vw at h
  split at h
  · cases h
  · exact h
theorem St.fact {W w : World} {M : List Res} {R : List Fact} {φ : Fact} (h : St W M R w) (hm : φ ∈ R) : φ (full w) := by
  obtain ⟨s, _, _, hR⟩ := h.mem
  exact hR φ hm _ (vw_le s w)
theorem St.derive {W w : World} {M : List Res} {R : List Fact} {ψ : Fact} (h : St W M R w) (hd : ∀ V, (∀ φ ∈ R, φ V) → ψ V) : St W M (ψ :: R) w := by
  obtain ⟨s, hS, hO, hR⟩ := h.mem
  refine ⟨h.os, h.tape, h.output, s, hS, hO, ?_⟩
  intro φ hφ
  rcases List.mem_cons.1 hφ with rfl | hφ
  · exact fun V' hl => hd V' (fun φ hφ => hR φ hφ V' hl)
  · exact hR φ hφ
theorem St.weak {W w : World} {M : List Res} {R R' : List Fact} (h : St W M R w) (hs : ∀ φ ∈ R', φ ∈ R) : St W M R' w := by
  obtain ⟨s, hS, hO, hR⟩ := h.mem
  exact ⟨h.os, h.tape, h.output, s, hS, hO, fun φ hφ => hR φ (hs φ hφ)⟩
theorem St.heap {W w w' : World} {M : List Res} {R : List Fact} (h : St W M R w) (h1 : w'.os = w.os) (h2 : w'.tape = w.tape) (h3 : w'.output = w.output) (h4 : w'.heap = w.heap) : St W M R w' := by
  obtain ⟨s, hS, hO, hR⟩ := h.mem
  refine ⟨h1.trans h.os, h2.trans h.tape, h3.trans h.output, s, hS, ⟨hO.nodup, fun p hp => by rw [h4]; exact hO.at_ p hp⟩, ?_⟩
  have : vw s w' = vw s w := by unfold vw; rw [h4]
  rw [this]; exact hR
theorem Sep.append {M N : List Res} {s : Sub} : Sep (M ++ N) s ↔ ∃ s1 s2, s = s1 ++ s2 ∧ Sep M s1 ∧ Sep N s2 := by
  induction M generalizing s with
  | nil => constructor
           · intro h; exact ⟨[], s, rfl, rfl, h⟩
           · rintro ⟨s1, s2, rfl, h1, h2⟩
             have h1' : s1 = [] := h1
             subst h1'; exact h2
  | cons r M ih =>
    constructor
    · rintro ⟨s1, s2, rfl, hr, hM⟩
      obtain ⟨t1, t2, rfl, h1, h2⟩ := ih.1 hM
      exact ⟨s1 ++ t1, t2, by simp, ⟨s1, t1, rfl, hr, h1⟩, h2⟩
    · rintro ⟨s1, s2, rfl, ⟨t1, t2, rfl, hr, hM⟩, h2⟩
      exact ⟨t1, t2 ++ s2, by simp, hr, ih.2 ⟨t2, s2, rfl, hM, h2⟩⟩
theorem Owns.perm {w : World} {s s' : Sub} (h : Owns w s) (hp : s.Perm s') : Owns w s' :=
  ⟨(hp.map _).nodup_iff.1 h.nodup, fun p hp' => h.at_ p (hp.mem_iff.2 hp')⟩
theorem vw_perm {w : World} {s s' : Sub} (hp : s.Perm s') : vw s w = vw s' w := by
  funext b
  unfold vw
  have : b ∈ keys s ↔ b ∈ keys s' := (hp.map _).mem_iff
  simp [this]
theorem Sep.perm {M M' : List Res} (hp : M.Perm M') : ∀ {s : Sub}, Sep M s → ∃ s', Sep M' s' ∧ s.Perm s' := by
  induction hp with
  | nil => intro s h; exact ⟨s, h, List.Perm.refl _⟩
  | cons r _ ih =>
    rintro s ⟨s1, s2, rfl, hr, hM⟩
    obtain ⟨t, ht, hpt⟩ := ih hM
    exact ⟨s1 ++ t, ⟨s1, t, rfl, hr, ht⟩, hpt.append_left s1⟩
  | swap r q M =>
    rintro s ⟨s1, s2, rfl, hr, t1, t2, rfl, hq, hM⟩
    refine ⟨t1 ++ (s1 ++ t2), ⟨t1, s1 ++ t2, rfl, hq, s1, t2, rfl, hr, hM⟩, ?_⟩
    rw [← List.append_assoc, ← List.append_assoc]
    exact List.perm_append_comm.append_right t2
  | trans _ _ ih1 ih2 =>
    intro s h
    obtain ⟨t, ht, hp1⟩ := ih1 h
    obtain ⟨u, hu, hp2⟩ := ih2 ht
    exact ⟨u, hu, hp1.trans hp2⟩
theorem St.perm {W w : World} {M M' : List Res} {R : List Fact} (h : St W M R w) (hp : M.Perm M') : St W M' R w := by
  obtain ⟨s, hS, hO, hR⟩ := h.mem
  obtain ⟨s', hS', hps⟩ := hS.perm hp
  exact ⟨h.os, h.tape, h.output, s', hS', hO.perm hps, by rw [← vw_perm hps]; exact hR⟩
def Upd (M : List Res) (r r' : Res) (M' : List Res) : Prop := ∃ A B, M = A ++ r :: B ∧ M' = A ++ r' :: B
theorem Upd.here {r r' : Res} {B : List Res} : Upd (r :: B) r r' (r' :: B) := ⟨[], B, rfl, rfl⟩
theorem Upd.there {x r r' : Res} {M M' : List Res} (h : Upd M r r' M') : Upd (x :: M) r r' (x :: M') := by
  obtain ⟨A, B, rfl, rfl⟩ := h; exact ⟨x :: A, B, rfl, rfl⟩
def Del (M : List Res) (r : Res) (M' : List Res) : Prop := ∃ A B, M = A ++ r :: B ∧ M' = A ++ B
theorem Del.here {r : Res} {B : List Res} : Del (r :: B) r B := ⟨[], B, rfl, rfl⟩
theorem Del.there {x r : Res} {M M' : List Res} (h : Del M r M') : Del (x :: M) r (x :: M') := by
  obtain ⟨A, B, rfl, rfl⟩ := h; exact ⟨x :: A, B, rfl, rfl⟩
theorem Del.perm {r : Res} {M M' : List Res} (h : Del M r M') : M.Perm (r :: M') := by
  obtain ⟨A, B, rfl, rfl⟩ := h; exact List.perm_middle
theorem St.replace {W w w' : World} {M M' : List Res} {R : List Fact} {r r' : Res} (h : St W M R w) (hu : Upd M r r' M')
    (h1 : w'.os = w.os) (h2 : w'.tape = w.tape) (h3 : w'.output = w.output)
    (hc : ∀ s, r s → Owns w s → ∃ s', r' s' ∧ Owns w' s' ∧ (∀ b ∈ keys s', b ∈ keys s ∨ w.heap.size ≤ b) ∧ ∀ b, b < w.heap.size → b ∉ keys s → w'.heap[b]? = w.heap[b]?) : St W M' R w' := by
  obtain ⟨A, B, rfl, rfl⟩ := hu
  obtain ⟨s, hS, hO, hR⟩ := h.mem
  obtain ⟨sA, sB', rfl, hA, s1, sB, rfl, hr, hB⟩ := Sep.append.1 hS
  have hn := hO.nodup
  simp only [keys_append] at hn
  have hO1 : Owns w s1 := ⟨(List.nodup_append.1 (List.nodup_append.1 hn).2.1).1, fun p hp => hO.at_ p (by simp [hp])⟩
  obtain ⟨s1', hr', hO1', hk, hoth⟩ := hc s1 hr hO1
  have lt : ∀ p ∈ sA ++ (s1 ++ sB), p.1 < w.heap.size := fun p hp => (Array.getElem?_eq_some_iff.1 (hO.at_ p hp)).1
  have ltk : ∀ b ∈ keys (sA ++ (s1 ++ sB)), b < w.heap.size := by
    intro b hb
    obtain ⟨p, hp, rfl⟩ := List.mem_map.1 hb
    exact lt p hp
  have dA : ∀ b ∈ keys sA, b ∉ keys s1 ∧ b ∉ keys sB := by
    intro b hb
    have := (List.nodup_append.1 hn).2.2 b hb
    exact ⟨fun h' => this b (by simp [h']) rfl, fun h' => this b (by simp [h']) rfl⟩
  have dB : ∀ b ∈ keys sB, b ∉ keys s1 := by
    intro b hb h'
    exact (List.nodup_append.1 (List.nodup_append.1 hn).2.1).2.2 b h' b hb rfl
  refine ⟨h1.trans h.os, h2.trans h.tape, h3.trans h.output, sA ++ (s1' ++ sB), Sep.append.2 ⟨sA, _, rfl, hA, s1', sB, rfl, hr', hB⟩, ⟨?_, ?_⟩, ?_⟩
  · simp only [keys_append]
    have ndA := (List.nodup_append.1 hn).1
    have ndB := (List.nodup_append.1 (List.nodup_append.1 hn).2.1).2.1
    refine List.nodup_append.2 ⟨ndA, List.nodup_append.2 ⟨hO1'.nodup, ndB, ?_⟩, ?_⟩
    · intro a ha b hb e
      subst e
      rcases hk a ha with h' | h'
      · exact dB a hb h'
      · exact absurd (ltk a (by simp [hb])) (by omega)
    · intro a ha b hb e
      subst e
      rcases List.mem_append.1 hb with h' | h'
      · rcases hk a h' with h'' | h''
        · exact (dA a ha).1 h''
        · exact absurd (ltk a (by simp [ha])) (by omega)
      · exact (dA a ha).2 h'
  · intro p hp
    rcases List.mem_append.1 hp with hp | hp
    · rw [hoth p.1 (lt p (by simp [hp])) (dA p.1 (List.mem_map_of_mem hp)).1]; exact hO.at_ p (by simp [hp])
    · rcases List.mem_append.1 hp with hp | hp
      · exact hO1'.at_ p hp
      · rw [hoth p.1 (lt p (by simp [hp])) (dB p.1 (List.mem_map_of_mem hp))]; exact hO.at_ p (by simp [hp])
  · intro φ hφ
    refine (hR φ hφ).mono ?_
    intro b o hb
    unfold vw at hb ⊢
    split at hb
    · cases hb
    · rename_i hnb
      have hlt : b < w.heap.size := (Array.getElem?_eq_some_iff.1 hb).1
      have hnb' : b ∉ keys s1 := fun h' => hnb (by simp [h'])
      rw [if_neg, hoth b hlt hnb']
      · exact hb
      · simp only [keys_append, List.mem_append] at hnb ⊢
        intro h'
        rcases h' with h' | h' | h'
        · exact hnb (.inl h')
        · rcases hk b h' with h'' | h''
          · exact hnb' h''
          · omega
        · exact hnb (.inr (.inr h'))
def bl (b : Nat) (o : Obj) : Res := fun s => s = [(b, o)]
theorem St.push {W w : World} {M : List Res} {R : List Fact} (h : St W M R w) (o : Obj) : St W (bl w.heap.size o :: M) R (w.alloc o) := by
  obtain ⟨s, hS, hO, hR⟩ := h.mem
  have ltk : ∀ b ∈ keys s, b < w.heap.size := by
    intro b hb
    obtain ⟨p, hp, rfl⟩ := List.mem_map.1 hb
    exact (Array.getElem?_eq_some_iff.1 (hO.at_ p hp)).1
  refine ⟨h.os, h.tape, h.output, (w.heap.size, o) :: s, ⟨[(w.heap.size, o)], s, rfl, rfl, hS⟩, ⟨?_, ?_⟩, ?_⟩
  · show (w.heap.size :: keys s).Nodup
    refine List.nodup_cons.2 ⟨fun h' => ?_, hO.nodup⟩
    have := ltk _ h'; omega
  · intro p hp
    rcases List.mem_cons.1 hp with rfl | hp
    · exact heap_alloc_new w o
    · rw [Go.RowKit.Below.heap_alloc w o _ (Array.getElem?_eq_some_iff.1 (hO.at_ p hp)).1]; exact hO.at_ p hp
  · intro φ hφ
    refine (hR φ hφ).mono ?_
    intro b x hb
    unfold vw at hb ⊢
    split at hb
    · cases hb
    · rename_i hnb
      have hlt : b < w.heap.size := (Array.getElem?_eq_some_iff.1 hb).1
      rw [if_neg, Go.RowKit.Below.heap_alloc w o b hlt]
      · exact hb
      · show b ∉ w.heap.size :: keys s
        simp only [List.mem_cons, not_or]
        exact ⟨by omega, hnb⟩
theorem St.res {W w : World} {M M' : List Res} {R : List Fact} {r r' : Res} (h : St W M R w) (hu : Upd M r r' M') : ∃ s, r s ∧ Owns w s := by
  obtain ⟨A, B, rfl, rfl⟩ := hu
  obtain ⟨s, hS, hO, _⟩ := h.mem
  obtain ⟨sA, sB', rfl, hA, s1, sB, rfl, hr, hB⟩ := Sep.append.1 hS
  have hn := hO.nodup
  simp only [keys_append] at hn
  exact ⟨s1, hr, (List.nodup_append.1 (List.nodup_append.1 hn).2.1).1, fun p hp => hO.at_ p (by simp [hp])⟩
theorem Upd.of_mem {M : List Res} {r : Res} (h : r ∈ M) : Upd M r r M := by
  obtain ⟨A, B, rfl⟩ := List.append_of_mem h
  exact ⟨A, B, rfl, rfl⟩
theorem St.bl {W w : World} {M : List Res} {R : List Fact} {b : Nat} {o : Obj} (h : St W M R w) (hm : G.bl b o ∈ M) : w.heap[b]? = some o := by
  obtain ⟨s, hr, hO⟩ := h.res (Upd.of_mem hm)
  have hr' : s = [(b, o)] := hr
  subst hr'
  exact hO.at_ (b, o) (by simp)
theorem St.drop {W w : World} {M : List Res} {R : List Fact} {r : Res} (h : St W (r :: M) R w) : St W M R w := by
  obtain ⟨s, ⟨s1, s2, rfl, hr, hM⟩, hO, hR⟩ := h.mem
  have hn := hO.nodup
  simp only [keys_append] at hn
  refine ⟨h.os, h.tape, h.output, s2, hM, ⟨(List.nodup_append.1 hn).2.1, fun p hp => hO.at_ p (by simp [hp])⟩, fun φ hφ => (hR φ hφ).mono ?_⟩
  intro b o hb
  unfold vw at hb ⊢
  split at hb
  · cases hb
  · rename_i hnb
    rw [if_neg (fun h' => hnb (by simp [h']))]; exact hb
def sealed (r : Res) : Fact := fun V => ∃ s, r s ∧ ∀ p ∈ s, V p.1 = some p.2
theorem St.seal_ {W w : World} {M : List Res} {R : List Fact} {r : Res} (h : St W (r :: M) R w) : St W M (sealed r :: R) w := by
  obtain ⟨s, ⟨s1, s2, rfl, hr, hM⟩, hO, hR⟩ := h.mem
  have hn := hO.nodup
  simp only [keys_append] at hn
  have hle : Le (vw (s1 ++ s2) w) (vw s2 w) := by
    intro b o hb
    unfold vw at hb ⊢
    split at hb
    · cases hb
    · rename_i hnb
      rw [if_neg (fun h' => hnb (by simp [h']))]; exact hb
  refine ⟨h.os, h.tape, h.output, s2, hM, ⟨(List.nodup_append.1 hn).2.1, fun p hp => hO.at_ p (by simp [hp])⟩, ?_⟩
  intro φ hφ
  rcases List.mem_cons.1 hφ with rfl | hφ
  · intro V' hl
    refine ⟨s1, hr, fun p hp => hl _ _ ?_⟩
    unfold vw
    rw [if_neg]
    · exact hO.at_ p (by simp [hp])
    · intro h'
      exact (List.nodup_append.1 hn).2.2 p.1 (List.mem_map_of_mem hp) p.1 h' rfl
  · exact (hR φ hφ).mono hle
end Go.G

namespace Go.G
abbrev Tm := List (Nat × Value)
def look : Tm → Nat → Option Value
  | [], _ => none
  | (k, v) :: r, t => match Nat.beq k t with | true => some v | false => look r t
structure FSat (n : Nat) (L : Tm) (a : Act) : Prop where
  size : a.tmps.size = n
  vals : ∀ t v, look L t = some v → a.tmps[t]? = some v
def ev (L : Tm) : Operand → Option Value
  | .tmp t => look L t
  | .const v => some v
  | .global g => some (.pointer (some ⟨g, 0, none⟩))
  | .func f => some (.func (.func f) #[] #[])
theorem FSat.ev {n : Nat} {L : Tm} {a : Act} (h : FSat n L a) {x : Operand} {v : Value} (hx : ev L x = some v) : a.eval x = v := by
  cases x with
  | tmp t => have := h.vals t v hx; simp [Act.eval, this]
  | const u => simpa [G.ev, Act.eval] using hx
  | global g => simpa [G.ev, Act.eval] using hx
  | func f => simpa [G.ev, Act.eval] using hx
theorem beq_no {d t : Nat} (h : d ≠ t) : Nat.beq d t = false := by
  cases hb : Nat.beq d t
  · rfl
  · exact absurd (Nat.eq_of_beq_eq_true hb) h
theorem look_cons_ne {L : Tm} {d t : Nat} {v : Value} (h : d ≠ t) : look ((d, v) :: L) t = look L t := by
  simp only [look]
  rw [beq_no h]
theorem look_cons_eq {L : Tm} {d : Nat} {v : Value} : look ((d, v) :: L) d = some v := by
  simp only [look]
  rw [show Nat.beq d d = true from by simp]
theorem FSat.put {n : Nat} {L : Tm} {a : Act} (h : FSat n L a) {d : Nat} (hd : d < n) (v : Value) : FSat n ((d, v) :: L) (a.put (some d) v) := by
  constructor
  · simp [Act.put, h.size]
  · intro t u hu
    by_cases e : d = t
    · subst e
      rw [look_cons_eq] at hu
      cases hu
      simp [Act.put, h.size, hd]
    · rw [look_cons_ne e] at hu
      simp only [Act.put]
      rw [Array.getElem?_setIfInBounds_ne e]
      exact h.vals t u hu
def putL (o : Option Nat) (v : Value) (L : Tm) : Tm := match o with | some d => (d, v) :: L | none => L
def okD (n : Nat) (o : Option Nat) : Bool := match o with | some d => Nat.blt d n | none => true
theorem FSat.putL {n : Nat} {L : Tm} {a : Act} (h : FSat n L a) {d : Option Nat} (hd : okD n d = true) (v : Value) : FSat n (putL d v L) (a.put d v) := by
  cases d with
  | none => exact h
  | some d => exact h.put (by simpa [okD] using hd) v
theorem put_defers (a : Act) (d : Option Nat) (v : Value) : (a.put d v).defers = a.defers := by cases d <;> rfl
def Imp (W : World) (n : Nat) (D : List Deferred) (L : Tm) (M : List Res) (R : List Fact) (X : Act → World → Prop) : Prop :=
  ∀ a w, FSat n L a → a.defers = D → St W M R w → X a w
def ImpQ (n : Nat) (D : List Deferred) (L : Tm) (X : Act → Prop) : Prop := ∀ a, FSat n L a → a.defers = D → X a
variable {P : Program} {W : World} {n : Nat} {D : List Deferred} {L : Tm} {M : List Res} {R : List Fact} {Q : Exit → Act → World → Prop}
theorem Imp.mono {X Y : Act → World → Prop} (h : Imp W n D L M R X) (hxy : ∀ a w, X a w → Y a w) : Imp W n D L M R Y := fun a w h1 h2 h3 => hxy a w (h a w h1 h2 h3)
def FSub (L L' : Tm) : Prop := ∀ t v, look L' t = some v → look L t = some v
theorem FSub.nil : FSub L [] := fun _ _ h => by cases h
theorem FSub.cons {L L' : Tm} {t : Nat} {v : Value} (h : look L t = some v) (h' : FSub L L') : FSub L ((t, v) :: L') := by
  intro u x hx
  by_cases e : t = u
  · subst e; rw [look_cons_eq] at hx; cases hx; exact h
  · rw [look_cons_ne e] at hx; exact h' u x hx
theorem FSub.cons2 {L L' : Tm} {t : Nat} {u v : Value} (h : look L t = some u) (e : u = v) (h' : FSub L L') : FSub L ((t, v) :: L') := FSub.cons (e ▸ h) h'
theorem FSat.sub {n : Nat} {L L' : Tm} {a : Act} (h : FSat n L a) (hs : FSub L L') : FSat n L' a := ⟨h.size, fun t v ht => h.vals t v (hs t v ht)⟩
def SelM (M M' : List Res) : Prop := ∃ X, M.Perm (M' ++ X)
theorem SelM.refl {M : List Res} : SelM M M := ⟨[], by simp⟩
theorem SelM.drop {r : Res} {M M' : List Res} (h : SelM M M') : SelM (r :: M) M' := by
  obtain ⟨X, hX⟩ := h
  exact ⟨r :: X, (hX.cons r).trans List.perm_middle.symm⟩
theorem SelM.pick {r : Res} {M M1 M' : List Res} (hd : Del M r M1) (h : SelM M1 M') : SelM M (r :: M') := by
  obtain ⟨X, hX⟩ := h
  exact ⟨X, hd.perm.trans (hX.cons r)⟩
theorem St.dropAll {w : World} {X M' : List Res} (h : St W (X ++ M') R w) : St W M' R w := by
  induction X with
  | nil => exact h
  | cons r X ih => exact ih h.drop
theorem St.sel {w : World} {M' : List Res} (h : St W M R w) (hs : SelM M M') : St W M' R w := by
  obtain ⟨X, hX⟩ := hs
  exact (h.perm (hX.trans List.perm_append_comm)).dropAll
def SubR (R R' : List Fact) : Prop := ∀ φ ∈ R', φ ∈ R
theorem SubR.refl {R : List Fact} : SubR R R := fun _ h => h
theorem SubR.nil {R : List Fact} : SubR R [] := fun _ h => by cases h
theorem SubR.cons {φ : Fact} {R R' : List Fact} (h : φ ∈ R) (h' : SubR R R') : SubR R (φ :: R') := fun ψ hψ => by
  rcases List.mem_cons.1 hψ with rfl | hψ
  · exact h
  · exact h' ψ hψ
theorem SubR.skip {φ : Fact} {R R' : List Fact} (h : SubR R R') : SubR (φ :: R) R' := fun ψ hψ => List.mem_cons_of_mem _ (h ψ hψ)
theorem SubR.append {R A B : List Fact} (h : SubR R A) (h' : SubR R B) : SubR R (A ++ B) := fun ψ hψ => by
  rcases List.mem_append.1 hψ with hψ | hψ
  · exact h ψ hψ
  · exact h' ψ hψ
theorem Imp.weak {L' : Tm} {M' : List Res} {R' : List Fact} {X : Act → World → Prop} (h : Imp W n D L' M' R' X) (hL : FSub L L') (hM : SelM M M') (hR : SubR R R') : Imp W n D L M R X :=
  fun a w h1 h2 h3 => h a w (h1.sub hL) h2 ((h3.sel hM).weak hR)
theorem Imp.derive {ψ : Fact} {X : Act → World → Prop} (h : Imp W n D L M (ψ :: R) X) (hd : ∀ V, (∀ φ ∈ R, φ V) → ψ V) : Imp W n D L M R X :=
  fun a w h1 h2 h3 => h a w h1 h2 (h3.derive hd)
theorem Imp.fact {φ : Fact} {X : Act → World → Prop} (hm : φ ∈ R) (h : (∃ V, φ V) → Imp W n D L M R X) : Imp W n D L M R X :=
  fun a w h1 h2 h3 => h ⟨_, h3.fact hm⟩ a w h1 h2 h3
theorem Imp.res {r : Res} {X : Act → World → Prop} (hm : r ∈ M) (h : (∃ s, r s) → Imp W n D L M R X) : Imp W n D L M R X :=
  fun a w h1 h2 h3 => h (let ⟨s, hs, _⟩ := h3.res (Upd.of_mem hm); ⟨s, hs⟩) a w h1 h2 h3
theorem r_seq {x y : Code} (h : Imp W n D L M R (x.wp P (Exit.then (y.wp P Q) Q))) : Imp W n D L M R ((Code.seq x y).wp P Q) := h.mono fun _ _ => wp_seq
theorem r_skip (h : Imp W n D L M R (Q .normal)) : Imp W n D L M R (Code.skip.wp P Q) := h.mono fun _ _ => wp_skip
theorem r_label {l : Nat} (h : Imp W n D L M R (Q .normal)) : Imp W n D L M R ((Code.label l).wp P Q) := h.mono fun _ _ => wp_label
theorem r_exit {id : Nat} (h : Imp W n D L M R (Q (.exit id))) : Imp W n D L M R ((Code.exit id).wp P Q) := h.mono fun _ _ => wp_exit
theorem r_ret (h : Imp W n D L M R (Q .ret)) : Imp W n D L M R (Code.ret.wp P Q) := h.mono fun _ _ => wp_ret
theorem r_block {id : Nat} {c : Code} (h : Imp W n D L M R (c.wp P (Exit.inBlock id Q))) : Imp W n D L M R ((Code.block id c).wp P Q) := h.mono fun _ _ => wp_block
theorem r_cond {c : Operand} {x y : Code} {t : Bool} (hc : ev L c = some (.bool t)) (ht : t = true → Imp W n D L M R (x.wp P Q)) (hf : t = false → Imp W n D L M R (y.wp P Q)) : Imp W n D L M R ((Code.cond c x y).wp P Q) := by
  intro a w h1 h2 h3
  cases t with
  | true => exact wp_cond (h1.ev hc) (ht rfl a w h1 h2 h3)
  | false => exact wp_cond (h1.ev hc) (hf rfl a w h1 h2 h3)
theorem r_condd {c : Operand} {x y : Code} {p : Prop} [Decidable p] (hc : ev L c = some (.bool (decide p))) (ht : p → Imp W n D L M R (x.wp P Q)) (hf : ¬ p → Imp W n D L M R (y.wp P Q)) : Imp W n D L M R ((Code.cond c x y).wp P Q) :=
  r_cond hc (fun h => ht (of_decide_eq_true h)) (fun h => hf (of_decide_eq_false h))
theorem r_then {K : Act → World → Prop} (h : Imp W n D L M R K) : Imp W n D L M R (Exit.then K Q .normal) := h
theorem r_then_exit {K : Act → World → Prop} {id : Nat} (h : Imp W n D L M R (Q (.exit id))) : Imp W n D L M R (Exit.then K Q (.exit id)) := h
theorem r_then_ret {K : Act → World → Prop} (h : Imp W n D L M R (Q .ret)) : Imp W n D L M R (Exit.then K Q .ret) := h
theorem r_in_normal {id : Nat} (h : Imp W n D L M R (Q .normal)) : Imp W n D L M R (Exit.inBlock id Q .normal) := h
theorem r_in_ret {id : Nat} (h : Imp W n D L M R (Q .ret)) : Imp W n D L M R (Exit.inBlock id Q .ret) := h
theorem r_in_here {id : Nat} (h : Imp W n D L M R (Q .normal)) : Imp W n D L M R (Exit.inBlock id Q (.exit id)) := by
  intro a w h1 h2 h3
  show (if id = id then Q .normal a w else Q (.exit id) a w)
  rw [if_pos rfl]; exact h a w h1 h2 h3
def Here (W : World) (n : Nat) (D : List Deferred) (L : Tm) (M : List Res) (R : List Fact) (a : Act) (w : World) : Prop := FSat n L a ∧ a.defers = D ∧ St W M R w
theorem r_here {L' : Tm} {M' : List Res} {R' : List Fact} (hL : FSub L L') (hM : SelM M M') (hR : SubR R R') : Imp W n D L M R (Here W n D L' M' R') :=
  fun _ _ h1 h2 h3 => ⟨h1.sub hL, h2, (h3.sel hM).weak hR⟩
def Next {ι : Type} (W : World) (n : Nat) (D : List Deferred) (I : ι → Prop) (LI : ι → Tm) (MI : ι → List Res) (RI : ι → List Fact) (μ : ι → Nat) (i : ι) (a : Act) (w : World) : Prop :=
  ∃ j, I j ∧ μ j < μ i ∧ Here W n D (LI j) (MI j) (RI j) a w
theorem r_next {ι : Type} {I : ι → Prop} {LI : ι → Tm} {MI : ι → List Res} {RI : ι → List Fact} {μ : ι → Nat} {i : ι} (j : ι) (h : Imp W n D L M R (Here W n D (LI j) (MI j) (RI j))) (hI : I j) (hμ : μ j < μ i) : Imp W n D L M R (Next W n D I LI MI RI μ i) :=
  fun a w h1 h2 h3 => ⟨j, hI, hμ, h a w h1 h2 h3⟩
theorem r_loop {ι : Type} {c : Code} (I : ι → Prop) (LI : ι → Tm) (MI : ι → List Res) (RI : ι → List Fact) (μ : ι → Nat) (i : ι) (h0 : Imp W n D L M R (Here W n D (LI i) (MI i) (RI i))) (hI0 : I i)
    (round : ∀ i, I i → Imp W n D (LI i) (MI i) (RI i) (c.wp P (Exit.then (Next W n D I LI MI RI μ i) Q))) : Imp W n D L M R ((Code.loop c).wp P Q) := by
  intro a w h1 h2 h3 b k cs
  have key : ∀ m i a w, μ i = m → I i → Here W n D (LI i) (MI i) (RI i) a w →
      ∃ e a' w', Q e a' w' ∧ Arrives P (lone (b.at a (.code c :: .inLoop c :: k)) cs w) b k cs e a' w' := by
    intro m
    induction m using Nat.strongRecOn with
    | _ m ih =>
      intro i a w hm hIi hI
      obtain ⟨e, a₁, w₁, hq, harr⟩ := round i hIi a w hI.1 hI.2.1 hI.2.2 b (.inLoop c :: k) cs
      cases e with
      | normal =>
        obtain ⟨j, hIj, hlt, hj⟩ := hq
        obtain ⟨e₂, a₂, w₂, hq₂, harr₂⟩ := ih (μ j) (hm ▸ hlt) j a₁ w₁ rfl hIj hj
        exact ⟨e₂, a₂, w₂, hq₂, .of_steps (Steps.trans harr (.one step_inLoop)) harr₂⟩
      | exit id => exact ⟨_, a₁, w₁, hq, .pass (x := .inLoop c) rfl (fun _ _ => .inl (by simp)) harr⟩
      | goto l => exact ⟨_, a₁, w₁, hq, .pass (x := .inLoop c) rfl (fun _ _ => .inl (by simp)) harr⟩
      | ret => exact ⟨_, a₁, w₁, hq, .pass (x := .inLoop c) rfl (fun _ _ => .inl (by simp)) harr⟩
      | panic ch => exact ⟨_, a₁, w₁, hq, .pass (x := .inLoop c) rfl (fun _ _ => .inl (by simp)) harr⟩
      | outgrown => exact ⟨_, a₁, w₁, hq, .pass (x := .inLoop c) rfl (fun _ _ => .inl (by simp)) harr⟩
  obtain ⟨e, a', w', hq, harr⟩ := key _ i a w rfl hI0 (h0 a w h1 h2 h3)
  exact ⟨e, a', w', hq, .of_steps (.one step_loop) harr⟩
def OpQ (P : Program) (W : World) (n : Nat) (L : Tm) (M : List Res) (R : List Fact) (o : Oper) (v : Value) : Prop :=
  ∀ a w, FSat n L a → St W M R w → Oper.quietAt P o a (St W M R) w v
theorem OpQ.of_value {o : Oper} {v : Value} (h : ∀ a w, FSat n L a → St W M R w → (execOp a.eval o).run P w = .ok (.value v) w) : OpQ P W n L M R o v := by
  intro a w h1 h2
  unfold Oper.quietAt
  rw [h a w h1 h2]
  exact ⟨rfl, rfl⟩
theorem r_region {id : Nat} {l : List Oper} (h : Imp W n D L M R (wpList P l.toArray Q l)) : Imp W n D L M R ((Code.region id l.toArray false).wp P Q) := h.mono fun _ _ => wp_region_lit
theorem r_region_q {id : Nat} {l : List Oper} (hm : P.follows .mixedOrders = true) (hB : Region.lexB .any l.toArray = true)
    (h : ImpQ n D L (wpQuiet P l.toArray (St W M R) (fun a' => ∀ w', St W M R w' → Q .normal a' w') l)) : Imp W n D L M R ((Code.region id l.toArray true).wp P Q) := by
  intro a w h1 h2 h3
  exact wp_region_quiet hm hB (h3.heap rfl rfl rfl rfl) (by simpa using h a h1 h2)
theorem o_nil {ops : Array Oper} (h : Imp W n D L M R (Q .normal)) : Imp W n D L M R (wpList P ops Q []) := h
theorem q_nil {ops : Array Oper} (h : Imp W n D L M R (Q .normal)) : ImpQ n D L (wpQuiet P ops (St W M R) (fun a' => ∀ w', St W M R w' → Q .normal a' w') []) :=
  fun a h1 h2 w' hw' => h a w' h1 h2 hw'
theorem o_q {ops : Array Oper} {o : Oper} {rest : List Oper} (v : Value) (hg : o.guard = none) {d : Nat} (hdst : o.dst = some d) (hd : Nat.blt d n = true) (ho : OpQ P W n L M R o v) (h : Imp W n D ((d, v) :: L) M R (wpList P ops Q rest)) : Imp W n D L M R (wpList P ops Q (o :: rest)) := by
  intro a w h1 h2 h3
  refine wpList_plain hg fun K hK => ?_
  refine Oper.wp_of_quiet (C := St W M R) (K := fun a' => a' = a.put o.dst v) h3 ?_ ⟨v, fun w' hw' => ho a w' h1 hw', rfl⟩
  rintro a' w' hw' rfl
  exact hK _ _ (h _ w' (by rw [hdst]; exact h1.put (by simpa using hd) v) (by rw [put_defers]; exact h2) hw')
theorem q_q {ops : Array Oper} {o : Oper} {rest : List Oper} {C : Act → Prop} (v : Value) (hg : o.guard = none) {d : Nat} (hdst : o.dst = some d) (hd : Nat.blt d n = true) (ho : OpQ P W n L M R o v) (h : ImpQ n D ((d, v) :: L) (wpQuiet P ops (St W M R) C rest)) : ImpQ n D L (wpQuiet P ops (St W M R) C (o :: rest)) := by
  intro a h1 h2
  refine wpQuiet_step fun K hK => ?_
  simp only [Region.wanted, hg, if_true]
  exact ⟨v, fun w hw => ho a w h1 hw, hK _ (h _ (by rw [hdst]; exact h1.put (by simpa using hd) v) (by rw [put_defers]; exact h2))⟩
def said (ops : Array Oper) (L : Tm) (j : Nat) : Option Bool :=
  match ops[j]? with
  | some { dst := some d, .. } => match look L d with | some (.bool b) => some b | _ => none
  | _ => none
theorem said_sound {ops : Array Oper} {a : Act} {j : Nat} {b : Bool} (h : FSat n L a) (hs : said ops L j = some b) : yielded ops a.tmps j = some b := by
  unfold said at hs
  unfold yielded
  split at hs
  · rename_i d _ _ _ _ _ ho
    split at hs
    · rename_i b' hb
      cases hs
      have := h.vals _ _ hb
      simp [ho, this]
    · cases hs
  · cases hs
def saidNo (ops : Array Oper) (L : Tm) (j : Nat) (b : Bool) : Bool :=
  match ops[j]? with
  | some { dst := some d, .. } => (match look L d with | some (.bool c) => c != b | some (.tuple _) => true | _ => false)
  | _ => false
theorem saidNo_sound {ops : Array Oper} {a : Act} {j : Nat} {b : Bool} (h : FSat n L a) (hs : saidNo ops L j b = true) : (yielded ops a.tmps j == some b) = false := by
  unfold saidNo at hs
  unfold yielded
  split at hs
  · rename_i d _ _ _ _ _ ho
    split at hs
    · rename_i c hc
      have := h.vals _ _ hc
      simp only [ho, Option.bind_some, this]
      cases c <;> cases b <;> simp_all
    · rename_i c hc
      have := h.vals _ _ hc
      simp [ho, this]
    · cases hs
  · cases hs
theorem o_g {ops : Array Oper} {o : Oper} {rest : List Oper} (v : Value) {j : Nat} {b : Bool} (hg : o.guard = some (j, b)) (hs : said ops L j = some b) {d : Nat} (hdst : o.dst = some d) (hd : Nat.blt d n = true) (ho : OpQ P W n L M R o v) (h : Imp W n D ((d, v) :: L) M R (wpList P ops Q rest)) : Imp W n D L M R (wpList P ops Q (o :: rest)) := by
  intro a w h1 h2 h3
  refine wpList_step fun K hK => ?_
  rw [if_pos (by simp [Region.wanted, hg, said_sound h1 hs])]
  refine Oper.wp_of_quiet (C := St W M R) (K := fun a' => a' = a.put o.dst v) h3 ?_ ⟨v, fun w' hw' => ho a w' h1 hw', rfl⟩
  rintro a' w' hw' rfl
  exact hK _ _ (h _ w' (by rw [hdst]; exact h1.put (by simpa using hd) v) (by rw [put_defers]; exact h2) hw')
theorem o_gn {ops : Array Oper} {o : Oper} {rest : List Oper} {j : Nat} {b : Bool} (hg : o.guard = some (j, b)) (hs : saidNo ops L j b = true) {d : Nat} (hdst : o.dst = some d) (hd : Nat.blt d n = true) (h : Imp W n D ((d, undef) :: L) M R (wpList P ops Q rest)) : Imp W n D L M R (wpList P ops Q (o :: rest)) := by
  intro a w h1 h2 h3
  refine wpList_step fun K hK => ?_
  rw [if_neg (by simp only [Region.wanted, hg, saidNo_sound h1 hs]; simp)]
  exact hK _ _ (h _ w (by rw [hdst]; exact h1.put (by simpa using hd) undef) (by rw [put_defers]; exact h2) h3)
theorem q_g {ops : Array Oper} {o : Oper} {rest : List Oper} {C : Act → Prop} (v : Value) {j : Nat} {b : Bool} (hg : o.guard = some (j, b)) (hs : said ops L j = some b) {d : Nat} (hdst : o.dst = some d) (hd : Nat.blt d n = true) (ho : OpQ P W n L M R o v) (h : ImpQ n D ((d, v) :: L) (wpQuiet P ops (St W M R) C rest)) : ImpQ n D L (wpQuiet P ops (St W M R) C (o :: rest)) := by
  intro a h1 h2
  refine wpQuiet_step fun K hK => ?_
  rw [if_pos (by simp [Region.wanted, hg, said_sound h1 hs])]
  exact ⟨v, fun w hw => ho a w h1 hw, hK _ (h _ (by rw [hdst]; exact h1.put (by simpa using hd) v) (by rw [put_defers]; exact h2))⟩
theorem q_gn {ops : Array Oper} {o : Oper} {rest : List Oper} {C : Act → Prop} {j : Nat} {b : Bool} (hg : o.guard = some (j, b)) (hs : saidNo ops L j b = true) {d : Nat} (hdst : o.dst = some d) (hd : Nat.blt d n = true) (h : ImpQ n D ((d, undef) :: L) (wpQuiet P ops (St W M R) C rest)) : ImpQ n D L (wpQuiet P ops (St W M R) C (o :: rest)) := by
  intro a h1 h2
  refine wpQuiet_step fun K hK => ?_
  rw [if_neg (by simp only [Region.wanted, hg, saidNo_sound h1 hs]; simp)]
  exact hK _ (h _ (by rw [hdst]; exact h1.put (by simpa using hd) undef) (by rw [put_defers]; exact h2))
structure FnV (P : Program) (k : FuncId) (args : List Value) (R : List Fact) (v : Value) : Prop where
  enter : ∀ (ag : Array Value) (w : World), (callFunc k ag).run P w = .ok (.enter k ag) w
  calls : ∀ W M Rf w, St W M (R ++ Rf) w → Calls P k args.toArray w fun e w' => e = .returned v ∧ St W M (R ++ Rf) w'
structure FnS (P : Program) (k : FuncId) (args : List Value) (M : List Res) (R : List Fact) (Post : Ending → List Res → List Fact → Prop) : Prop where
  enter : ∀ (ag : Array Value) (w : World), (callFunc k ag).run P w = .ok (.enter k ag) w
  calls : ∀ W Mf Rf w, St W (M ++ Mf) (R ++ Rf) w → Calls P k args.toArray w fun e w' => ∃ M' R', Post e M' R' ∧ St W (M' ++ Mf) (R' ++ (R ++ Rf)) w'
theorem St.both {w : World} {R' : List Fact} (h : St W M R w) (hs : SubR R R') : St W M (R' ++ R) w := h.weak (SubR.append hs SubR.refl)
theorem FnV.use {k : FuncId} {args : List Value} {R0 : List Fact} {v : Value} (h : FnV P k args R0 v) (hs : SubR R R0) {w : World} (hw : St W M R w) : Calls P k args.toArray w fun e w' => e = .returned v ∧ St W M R w' :=
  (h.calls W M R w (hw.both hs)).mono fun _ _ ⟨he, hs'⟩ => ⟨he, hs'.weak (fun _ hφ => List.mem_append_right _ hφ)⟩
def evs (L : Tm) : List Operand → Option (List Value)
  | [] => some []
  | x :: r => match ev L x with
    | some v => (match evs L r with | some vs => some (v :: vs) | none => none)
    | none => none
theorem FSat.evs {a : Act} (h : FSat n L a) : ∀ {xs : List Operand} {vs : List Value}, evs L xs = some vs → xs.map a.eval = vs
  | [], vs, hx => by simpa [G.evs] using hx
  | x :: r, vs, hx => by
    simp only [G.evs] at hx
    split at hx
    · rename_i v hv
      split at hx
      · rename_i us hus
        cases hx
        simp [h.ev hv, FSat.evs h hus]
      · cases hx
    · cases hx
theorem exec_call {a : Act} {w : World} {o : Oper} {f : Operand} {xs : List Operand} {ts : Array TypeId} {k : FuncId} {vs : List Value} (first captured : List Value)
    (ho : o.op = .call { callee := .value f, args := xs.toArray, argTypes := ts }) (hf : a.eval f = .func (.func k) first.toArray captured.toArray) (hx : xs.map a.eval = vs)
    (he : ∀ (ag : Array Value) (w : World), (callFunc k ag).run P w = .ok (.enter k ag) w) : (execOp a.eval o).run P w = .ok (.enter k (first ++ vs ++ captured).toArray) w := by
  unfold execOp
  simp only [ho, resolve, hf, Deferred.ofValue, Sem.run_bind, Sem.run_pure, Result.andThen_ok, invoke, List.map_toArray, hx, he]
  simp
theorem OpQ.call {k : FuncId} {args : List Value} {R0 : List Fact} {v : Value} {f : Operand} {xs : List Operand} {ts : Array TypeId} {o : Oper} {vs : List Value}
    (h : FnV P k args R0 v) (ho : o.op = .call { callee := .value f, args := xs.toArray, argTypes := ts }) (first captured : List Value) (hf : ev L f = some (.func (.func k) first.toArray captured.toArray))
    (hx : evs L xs = some vs) (ha : first ++ vs ++ captured = args) (hs : SubR R R0) : OpQ P W n L M R o v := by
  intro a w h1 h2
  unfold Oper.quietAt
  rw [exec_call first captured ho (h1.ev hf) (h1.evs hx) h.enter, ha]
  exact ⟨rfl, h.use hs h2⟩
theorem OpQ.fn {k : FuncId} {args : List Value} {R0 : List Fact} {v : Value} {xs : List Operand} {ts : Array TypeId} {o : Oper}
    (h : FnV P k args R0 v) (ho : o.op = .call { callee := .value (.func k), args := xs.toArray, argTypes := ts })
    (hx : evs L xs = some args) (hs : SubR R R0) : OpQ P W n L M R o v := OpQ.call h ho [] [] rfl hx (by simp) hs
theorem o_call {ops : Array Oper} {o : Oper} {rest : List Oper} {k : FuncId} {args : List Value} {M0 Mf : List Res} {R0 : List Fact} {Post : Ending → List Res → List Fact → Prop} {f : Operand} {xs : List Operand} {ts : Array TypeId} {vs : List Value}
    (h : FnS P k args M0 R0 Post) (ho : o.op = .call { callee := .value f, args := xs.toArray, argTypes := ts }) (first captured : List Value) (hf : ev L f = some (.func (.func k) first.toArray captured.toArray))
    (hx : evs L xs = some vs) (ha : first ++ vs ++ captured = args) (hg : o.guard = none) (hd : okD n o.dst = true) (hM : SelM M (M0 ++ Mf)) (hs : SubR R R0)
    (hret : ∀ v M' R', Post (.returned v) M' R' → Imp W n D (putL o.dst v L) (M' ++ Mf) (R' ++ R) (wpList P ops Q rest))
    (hpan : ∀ c M' R', Post (.panicked c) M' R' → Imp W n D L (M' ++ Mf) (R' ++ R) (Q (.panic c)))
    (hout : ∀ M' R', Post .outgrown M' R' → False) : Imp W n D L M R (wpList P ops Q (o :: rest)) := by
  intro a w h1 h2 h3
  refine wpList_plain hg fun K hK => ?_
  unfold Oper.wp
  rw [exec_call first captured ho (h1.ev hf) (h1.evs hx) h.enter, ha]
  refine (h.calls W Mf R w ((h3.sel hM).both hs)).mono ?_
  rintro e w' ⟨M', R', hp, hw'⟩
  have hw2 : St W (M' ++ Mf) (R' ++ R) w' := hw'.weak (fun φ hφ => by
    rcases List.mem_append.1 hφ with hφ | hφ
    · exact List.mem_append_left _ hφ
    · exact List.mem_append_right _ (List.mem_append_right _ hφ))
  cases e with
  | returned v => exact hK _ _ (hret v M' R' hp _ w' (h1.putL hd v) (by rw [put_defers]; exact h2) hw2)
  | panicked c => exact hpan c M' R' hp a w' h1 h2 hw2
  | outgrown => exact (hout M' R' hp).elim
def argsL : List Value → Nat → Tm
  | [], _ => []
  | v :: r, i => (i, v) :: argsL r (i + 1)
theorem look_argsL : ∀ (vs : List Value) (i t : Nat) (v : Value), look (argsL vs i) t = some v → ∃ j, t = i + j ∧ vs[j]? = some v
  | [], _, _, _, h => by cases h
  | u :: r, i, t, v, h => by
    by_cases e : i = t
    · subst e
      simp only [argsL] at h
      rw [look_cons_eq] at h
      exact ⟨0, rfl, by simpa using h⟩
    · simp only [argsL] at h
      rw [look_cons_ne e] at h
      obtain ⟨j, rfl, hj⟩ := look_argsL r (i + 1) t v h
      exact ⟨j + 1, by omega, by simpa using hj⟩
theorem FSat.entry {args : List Value} (h : args.length ≤ n) : FSat n (argsL args 0) { tmps := args.toArray ++ Array.replicate (n - args.toArray.size) undef, defers := [] } := by
  constructor
  · simp; omega
  · intro t v hv
    obtain ⟨j, rfl, hj⟩ := look_argsL args 0 t v hv
    have hlt : j < args.length := (List.getElem?_eq_some_iff.1 hj).1
    simp only [Nat.zero_add]
    rw [Array.getElem?_append_left (by simpa using hlt)]
    simpa using hj
def RetV (W : World) (M : List Res) (R : List Fact) (v : Value) (e : Ending) (w' : World) : Prop := e = .returned v ∧ St W M R w'
def RetE (W : World) (Mf : List Res) (R : List Fact) (Post : Ending → List Res → List Fact → Prop) (e : Ending) (w' : World) : Prop := ∃ M' R', Post e M' R' ∧ St W (M' ++ Mf) (R' ++ R) w'
theorem FnV.intro {k : FuncId} {args : List Value} {R0 : List Fact} {v : Value} {fn : Func} {c : Code} (he : ∀ (ag : Array Value) (w : World), (callFunc k ag).run P w = .ok (.enter k ag) w)
    (hf : P.funcs[k]? = some fn) (hb : fn.body = some c) (hn : fn.ntmps = n) (ha : Nat.ble args.length n = true)
    (h : ∀ W M Rf, Imp W n [] (argsL args 0) M (R0 ++ Rf) (c.wp P (bodyPost P fn (RetV W M (R0 ++ Rf) v)))) : FnV P k args R0 v := by
  refine ⟨he, fun W M Rf w hw => calls_of_wp hf hb ?_⟩
  rw [hn]
  exact h W M Rf _ w (FSat.entry (Nat.le_of_ble_eq_true ha)) rfl hw
theorem FnS.intro {k : FuncId} {args : List Value} {M0 : List Res} {R0 : List Fact} {Post : Ending → List Res → List Fact → Prop} {fn : Func} {c : Code} (he : ∀ (ag : Array Value) (w : World), (callFunc k ag).run P w = .ok (.enter k ag) w)
    (hf : P.funcs[k]? = some fn) (hb : fn.body = some c) (hn : fn.ntmps = n) (ha : Nat.ble args.length n = true)
    (h : ∀ W Mf Rf, Imp W n [] (argsL args 0) (M0 ++ Mf) (R0 ++ Rf) (c.wp P (bodyPost P fn (RetE W Mf (R0 ++ Rf) Post)))) : FnS P k args M0 R0 Post := by
  refine ⟨he, fun W Mf Rf w hw => calls_of_wp hf hb ?_⟩
  rw [hn]
  exact h W Mf Rf _ w (FSat.entry (Nat.le_of_ble_eq_true ha)) rfl hw
def Rd (P : Program) (W : World) (n : Nat) (L : Tm) (M : List Res) (R : List Fact) (fn : Func) (v : Value) : Prop := ∀ a w, FSat n L a → St W M R w → (results fn a.tmps).run P w = .ok v w
theorem Rd.tmp {fn : Func} {t : Tmp} {v : Value} (h : fn.results = #[.tmp t]) (hv : look L t = some v) : Rd P W n L M R fn v := by
  intro a w h1 _
  have := h1.vals t v hv
  rw [results_tmp h]; simp [this]
theorem Rd.none {fn : Func} (h : fn.results = #[]) : Rd P W n L M R fn (.tuple #[]) := by
  intro a w _ _
  rw [results_none h]
theorem r_retv {fn : Func} {M0 : List Res} {R0 : List Fact} {v : Value} (hr : Rd P W n L M R fn v) (hM : SelM M M0) (hR : SubR R R0) : Imp W n [] L M R (bodyPost P fn (RetV W M0 R0 v) .ret) :=
  fun a w h1 h2 h3 => ⟨h2, v, hr a w h1 h3, rfl, (h3.sel hM).weak hR⟩
theorem r_endv {fn : Func} {M0 : List Res} {R0 : List Fact} {v : Value} (hr : Rd P W n L M R fn v) (hM : SelM M M0) (hR : SubR R R0) : Imp W n [] L M R (bodyPost P fn (RetV W M0 R0 v) .normal) :=
  fun a w h1 h2 h3 => ⟨h2, v, hr a w h1 h3, rfl, (h3.sel hM).weak hR⟩
theorem r_retv2 {fn : Func} {M0 : List Res} {R0 : List Fact} {u v : Value} (hr : Rd P W n L M R fn u) (he : u = v) (hM : SelM M M0) (hR : SubR R R0) : Imp W n [] L M R (bodyPost P fn (RetV W M0 R0 v) .ret) := by
  subst he; exact r_retv hr hM hR
theorem r_rete {fn : Func} {Mf : List Res} {R0 : List Fact} {Post : Ending → List Res → List Fact → Prop} {v : Value} (M' : List Res) (R' : List Fact) (hr : Rd P W n L M R fn v) (hp : Post (.returned v) M' R') (hM : SelM M (M' ++ Mf)) (hR : SubR R (R' ++ R0)) : Imp W n [] L M R (bodyPost P fn (RetE W Mf R0 Post) .ret) :=
  fun a w h1 h2 h3 => ⟨h2, v, hr a w h1 h3, M', R', hp, (h3.sel hM).weak hR⟩
theorem r_ende {fn : Func} {Mf : List Res} {R0 : List Fact} {Post : Ending → List Res → List Fact → Prop} {v : Value} (M' : List Res) (R' : List Fact) (hr : Rd P W n L M R fn v) (hp : Post (.returned v) M' R') (hM : SelM M (M' ++ Mf)) (hR : SubR R (R' ++ R0)) : Imp W n [] L M R (bodyPost P fn (RetE W Mf R0 Post) .normal) :=
  fun a w h1 h2 h3 => ⟨h2, v, hr a w h1 h3, M', R', hp, (h3.sel hM).weak hR⟩
end Go.G

namespace Go.G
variable {P : Program} {W : World} {n : Nat} {D : List Deferred} {L : Tm} {M : List Res} {R : List Fact} {Q : Exit → Act → World → Prop} {o : Oper}
theorem run_sizeOf' {w : World} {t : TypeId} {i : TypeInfo} (hi : P.info? t = some i) : (sizeOf t).run P w = .ok i.size w := by
  simp [sizeOf, typeInfo, hi]
theorem run_zeroValue' {w : World} {t : TypeId} {i : TypeInfo} {z : Value} (hi : P.info? t = some i) (hz : i.zero = some z) : (zeroValue t).run P w = .ok z w := by
  simp [zeroValue, typeInfo, hi, hz]
theorem v_move {x : Operand} {v : Value} (ho : o.op = .move x) (hx : ev L x = some v) : OpQ P W n L M R o v :=
  OpQ.of_value fun a w h1 _ => by simp [execOp, ho, h1.ev hx]
theorem v_assign {x : Operand} {v : Value} (ho : o.op = .assign x) (hx : ev L x = some v) : OpQ P W n L M R o v :=
  OpQ.of_value fun a w h1 _ => by simp [execOp, ho, h1.ev hx]
theorem v_pick_t {c x y : Operand} {v : Value} (ho : o.op = .pick c x y) (hc : ev L c = some (.bool true)) (hx : ev L x = some v) : OpQ P W n L M R o v :=
  OpQ.of_value fun a w h1 _ => by simp [execOp, ho, h1.ev hc, h1.ev hx, asBool]
theorem v_pick_f {c x y : Operand} {v : Value} (ho : o.op = .pick c x y) (hc : ev L c = some (.bool false)) (hx : ev L y = some v) : OpQ P W n L M R o v :=
  OpQ.of_value fun a w h1 _ => by simp [execOp, ho, h1.ev hc, h1.ev hx, asBool]
section ints
variable {t u : TypeId} {x y : Operand} {k : IntKind} {a b : Int}
theorem v_add (ho : o.op = .binOp .add t x y u) (hx : ev L x = some (.int .i64 a)) (hy : ev L y = some (.int .i64 b)) (h : -9223372036854775808 ≤ a + b ∧ a + b ≤ 9223372036854775807) : OpQ P W n L M R o (.int .i64 (a + b)) :=
  OpQ.of_value fun f w h1 _ => by simp [execOp, ho, h1.ev hx, h1.ev hy, eqGuard, binOp, Op.intArith, IntWalk.i64_in _ h]
theorem v_sub (ho : o.op = .binOp .sub t x y u) (hx : ev L x = some (.int .i64 a)) (hy : ev L y = some (.int .i64 b)) (h : -9223372036854775808 ≤ a - b ∧ a - b ≤ 9223372036854775807) : OpQ P W n L M R o (.int .i64 (a - b)) :=
  OpQ.of_value fun f w h1 _ => by simp [execOp, ho, h1.ev hx, h1.ev hy, eqGuard, binOp, Op.intArith, IntWalk.i64_in _ h]
theorem v_mul (ho : o.op = .binOp .mul t x y u) (hx : ev L x = some (.int .i64 a)) (hy : ev L y = some (.int .i64 b)) (h : -9223372036854775808 ≤ a * b ∧ a * b ≤ 9223372036854775807) : OpQ P W n L M R o (.int .i64 (a * b)) :=
  OpQ.of_value fun f w h1 _ => by simp [execOp, ho, h1.ev hx, h1.ev hy, eqGuard, binOp, Op.intArith, IntWalk.i64_in _ h]
theorem v_lss (ho : o.op = .binOp .lss t x y u) (hx : ev L x = some (.int k a)) (hy : ev L y = some (.int k b)) : OpQ P W n L M R o (.bool (decide (a < b))) :=
  OpQ.of_value fun f w h1 _ => by simp [execOp, ho, h1.ev hx, h1.ev hy, eqGuard, binOp, Op.intCmp]
theorem v_leq (ho : o.op = .binOp .leq t x y u) (hx : ev L x = some (.int k a)) (hy : ev L y = some (.int k b)) : OpQ P W n L M R o (.bool (decide (a ≤ b))) :=
  OpQ.of_value fun f w h1 _ => by simp [execOp, ho, h1.ev hx, h1.ev hy, eqGuard, binOp, Op.intCmp]
theorem v_gtr (ho : o.op = .binOp .gtr t x y u) (hx : ev L x = some (.int k a)) (hy : ev L y = some (.int k b)) : OpQ P W n L M R o (.bool (decide (b < a))) :=
  OpQ.of_value fun f w h1 _ => by simp [execOp, ho, h1.ev hx, h1.ev hy, eqGuard, binOp, Op.intCmp]
theorem v_geq (ho : o.op = .binOp .geq t x y u) (hx : ev L x = some (.int k a)) (hy : ev L y = some (.int k b)) : OpQ P W n L M R o (.bool (decide (b ≤ a))) :=
  OpQ.of_value fun f w h1 _ => by simp [execOp, ho, h1.ev hx, h1.ev hy, eqGuard, binOp, Op.intCmp]
theorem v_eql (ho : o.op = .binOp .eql t x y u) (hx : ev L x = some (.int k a)) (hy : ev L y = some (.int k b)) : OpQ P W n L M R o (.bool (decide (a = b))) :=
  OpQ.of_value fun f w h1 _ => by
    have hb : (a == b) = decide (a = b) := by by_cases h : a = b <;> simp [h]
    simp [execOp, ho, h1.ev hx, h1.ev hy, eqGuard, binOp, Op.intCmp, hb]
theorem v_neq (ho : o.op = .binOp .neq t x y u) (hx : ev L x = some (.int k a)) (hy : ev L y = some (.int k b)) : OpQ P W n L M R o (.bool (decide (a ≠ b))) :=
  OpQ.of_value fun f w h1 _ => by
    have hb : (a != b) = decide (a ≠ b) := by by_cases h : a = b <;> simp [h]
    simp [execOp, ho, h1.ev hx, h1.ev hy, eqGuard, binOp, Op.intCmp, hb]
theorem v_rem (ho : o.op = .binOp .rem t x y u) (hx : ev L x = some (.int k a)) (hy : ev L y = some (.int k b)) (h : b ≠ 0) : OpQ P W n L M R o (.int k (a.tmod b)) :=
  OpQ.of_value fun f w h1 _ => by simp [execOp, ho, h1.ev hx, h1.ev hy, eqGuard, binOp, Op.intDiv, h]
theorem v_quo (ho : o.op = .binOp .quo t x y u) (hx : ev L x = some (.int .i64 a)) (hy : ev L y = some (.int .i64 b)) (h : b ≠ 0) (h' : -9223372036854775808 ≤ a.tdiv b ∧ a.tdiv b ≤ 9223372036854775807) : OpQ P W n L M R o (.int .i64 (a.tdiv b)) :=
  OpQ.of_value fun f w h1 _ => by simp [execOp, ho, h1.ev hx, h1.ev hy, eqGuard, binOp, Op.intDiv, h, IntWalk.i64_in _ h']
end ints
theorem v_true {c : Prop} [Decidable c] (h : OpQ P W n L M R o (.bool (decide c))) (hc : c) : OpQ P W n L M R o (.bool true) := by rwa [decide_eq_true hc] at h
theorem v_false {c : Prop} [Decidable c] (h : OpQ P W n L M R o (.bool (decide c))) (hc : ¬ c) : OpQ P W n L M R o (.bool false) := by rwa [decide_eq_false hc] at h
theorem v_not {t : TypeId} {x : Operand} {b : Bool} (ho : o.op = .unOp .not t x) (hx : ev L x = some (.bool b)) : OpQ P W n L M R o (.bool (!b)) :=
  OpQ.of_value fun f w h1 _ => by simp [execOp, ho, h1.ev hx, Op.unary]
theorem v_conv {s t : TypeId} {x : Operand} {j k : IntKind} {d : TypeDesc} {a : Int} (ho : o.op = .convert s t x) (hs : P.underlying s = some d) (ht : P.underlying t = some (.int k)) (hx : ev L x = some (.int j a)) (h : k.wrap a = a) : OpQ P W n L M R o (.int k a) :=
  OpQ.of_value fun f w h1 _ => by simp [execOp, ho, h1.ev hx, convert, run_underlying hs, run_underlying ht, Conv.intToInt, h]
def bx (b : Nat) (T : TypeId) (vs : List Value) : Res := bl b (.cells vs.toArray T (0, 0))
def pt (b off : Nat) : Value := .pointer (some ⟨b, off, none⟩)
theorem St.cell {w : World} {b : Nat} {T : TypeId} {vs : List Value} (h : St W M R w) (hm : bx b T vs ∈ M) (i : Nat) : w.cell? ⟨b, i, none⟩ = vs[i]? := by
  rw [cell_of_row w b i _ T (0, 0) (h.bl hm)]; simp
theorem add_at (b off j : Nat) : (⟨b, off, none⟩ : Addr).add j = ⟨b, off + j, none⟩ := by
  unfold Addr.add; split <;> simp_all
theorem run_loadCells_bx {w : World} {b off k : Nat} {T : TypeId} {vs us : List Value} (h : St W M R w) (hm : bx b T vs ∈ M) (hu : us.length = k) (hv : ∀ j, j < k → vs[off + j]? = us[j]?) : (loadCells ⟨b, off, none⟩ k).run P w = .ok us.toArray w := by
  subst hu
  refine run_loadCells_list w _ us fun j v hj => ?_
  have hlt : j < us.length := (List.getElem?_eq_some_iff.1 hj).1
  rw [add_at, h.cell hm, hv j hlt, hj]
def aggD : TypeDesc → Bool
  | .struct _ => true
  | .array _ _ => true
  | _ => false
theorem run_isAgg' {w : World} {T : TypeId} {d : TypeDesc} (hT : P.underlying T = some d) : (isAgg T).run P w = .ok (aggD d) w := by
  simp only [isAgg, Sem.run_bind, run_underlying hT, Result.andThen_ok]
  cases d <;> rfl
theorem v_load1 {T : TypeId} {x : Operand} {b off : Nat} {B : TypeId} {vs : List Value} {v : Value} {d : TypeDesc} (ho : o.op = .load T x) (hT : P.underlying T = some d) (hd : aggD d = false)
    (hx : ev L x = some (pt b off)) (hm : bx b B vs ∈ M) (hv : vs[off]? = some v) : OpQ P W n L M R o v :=
  OpQ.of_value fun f w h1 h2 => by
    have hc := h2.cell hm off
    rw [hv] at hc
    have hagg := run_isAgg' (w := w) hT
    rw [hd] at hagg
    simp [execOp, ho, h1.ev hx, Instr.loadAt, pt, Instr.sureAddr, loadVar, hagg, hc]
def cellsAt (vs : List Value) (off : Nat) : List Value → Bool
  | [] => true
  | _ :: r => Nat.blt off vs.length && cellsAt vs (off + 1) r
theorem v_loadN {T : TypeId} {x : Operand} {b off : Nat} {B : TypeId} {vs us : List Value} {d : TypeDesc} {i : TypeInfo} (ho : o.op = .load T x) (hT : P.underlying T = some d) (hd : aggD d = true) (hi : P.info? T = some i)
    (hx : ev L x = some (pt b off)) (hm : bx b B vs ∈ M) (hu : us.length = i.size) (hv : ∀ j, j < i.size → vs[off + j]? = us[j]?) : OpQ P W n L M R o (.agg us.toArray) :=
  OpQ.of_value fun f w h1 h2 => by
    have hagg := run_isAgg' (w := w) hT
    rw [hd] at hagg
    simp [execOp, ho, h1.ev hx, Instr.loadAt, pt, Instr.sureAddr, loadVar, hagg, run_sizeOf' hi, run_loadCells_bx h2 hm hu hv]
theorem v_loadW {T : TypeId} {x : Operand} {b : Nat} {B : TypeId} {vs : List Value} {d : TypeDesc} {i : TypeInfo} (ho : o.op = .load T x) (hT : P.underlying T = some d) (hd : aggD d = true) (hi : P.info? T = some i)
    (hx : ev L x = some (pt b 0)) (hm : bx b B vs ∈ M) (hu : vs.length = i.size) : OpQ P W n L M R o (.agg vs.toArray) :=
  v_loadN ho hT hd hi hx hm hu (fun j _ => by simp)
theorem v_nilCheck {x : Operand} {b off : Nat} (ho : o.op = .nilCheck x) (hx : ev L x = some (pt b off)) : OpQ P W n L M R o (pt b off) :=
  OpQ.of_value fun f w h1 _ => by simp [execOp, ho, h1.ev hx, pt]
theorem v_fieldAddr {T : TypeId} {x : Operand} {b off j : Nat} {fs : Array Field} {f : Field} {i : TypeInfo} (ho : o.op = .fieldAddr T x j) (hT : P.underlying T = some (.struct fs)) {ft : TypeId} (hi : P.info? ft = some i) (hf : fs[j]? = some f) (hft : f.type = ft) (hz : Nat.beq i.size 0 = false)
    (hx : ev L x = some (pt b off)) : OpQ P W n L M R o (pt b (off + f.offset)) :=
  OpQ.of_value fun g w h1 _ => by
    subst hft
    have hz' : ¬ i.size = 0 := fun e => by rw [e] at hz; cases hz
    simp [execOp, ho, h1.ev hx, Instr.fieldAt, pt, run_underlying hT, hf, Instr.sureAddr, fieldPlace, run_sizeOf' hi, hz', add_at]
theorem v_indexAddrA {T : TypeId} {x ix : Operand} {b off len : Nat} {e : TypeId} {i : TypeInfo} {k : Int} {kd : IntKind} (ho : o.op = .indexAddr T x ix) (hT : P.underlying T = some (.array len e)) (hi : P.info? e = some i)
    (hx : ev L x = some (pt b off)) (hk : ev L ix = some (.int kd k)) (h : 0 ≤ k ∧ k < len) : OpQ P W n L M R o (pt b (off + k.toNat * i.size)) :=
  OpQ.of_value fun g w h1 _ => by
    simp [execOp, ho, h1.ev hx, h1.ev hk, Instr.indexAt, pt, run_underlying hT, asIntOf, Instr.sureAddr, h, run_sizeOf' hi, add_at]
theorem v_field {T : TypeId} {x : Operand} {j : Nat} {cs : List Value} {fs : Array Field} {f : Field} {d : TypeDesc} {i : TypeInfo} {v : Value} (ho : o.op = .field T x j) (hT : P.underlying T = some (.struct fs)) {ft : TypeId} (hd : P.underlying ft = some d) (hi : P.info? ft = some i) (hf : fs[j]? = some f) (hft : f.type = ft)
    (hx : ev L x = some (.agg cs.toArray)) (hv : (if aggD d then some (.agg (cs.toArray.extract f.offset (f.offset + i.size))) else cs[f.offset]?) = some v) : OpQ P W n L M R o v :=
  OpQ.of_value fun g w h1 _ => by
    subst hft
    have hagg := run_isAgg' (w := w) hd
    cases hb : aggD d with
    | true =>
      rw [hb] at hagg hv
      simp only [if_true, Option.some.injEq] at hv
      subst hv
      simp [execOp, ho, h1.ev hx, Instr.field, run_underlying hT, hf, asAgg, part, hagg, run_sizeOf' hi]
    | false =>
      rw [hb] at hagg hv
      simp only [if_false, Bool.false_eq_true] at hv
      simp [execOp, ho, h1.ev hx, Instr.field, run_underlying hT, hf, asAgg, part, hagg, hv]
theorem v_extract {x : Operand} {j : Nat} {vs : List Value} {v : Value} (ho : o.op = .extract x j) (hx : ev L x = some (.tuple vs.toArray)) (hv : vs[j]? = some v) : OpQ P W n L M R o v :=
  OpQ.of_value fun g w h1 _ => by simp [execOp, ho, h1.ev hx, Instr.extract, hv]
theorem v_makeFunc {fn : Fn} {fs cs : List Operand} {us vs : List Value} (ho : o.op = .makeFunc fn fs.toArray cs.toArray) (hf : evs L fs = some us) (hc : evs L cs = some vs) : OpQ P W n L M R o (.func fn us.toArray vs.toArray) :=
  OpQ.of_value fun g w h1 _ => by simp [execOp, ho, Instr.makeFunc, h1.evs hf, h1.evs hc]
theorem v_makeIface {T : TypeId} {x : Operand} {v : Value} {d : TypeDesc} (ho : o.op = .makeInterface T x) (hT : P.underlying T = some d) (hd : (match d with | .interface _ => false | _ => true) = true) (hx : ev L x = some v) : OpQ P W n L M R o (.iface T v) :=
  OpQ.of_value fun g w h1 _ => by
    cases d <;> simp_all [execOp, h1.ev hx, Instr.makeInterface, run_underlying hT]
def Cat (vs cs : List Value) : Prop := cs = vs.flatMap fun v => v.cells.toList
theorem Cat.nil : Cat [] [] := rfl
theorem Cat.one {v : Value} {vs cs : List Value} (h : v.oneCell' = true) (r : Cat vs cs) : Cat (v :: vs) (v :: cs) := by
  have : v.cells.toList = [v] := by cases v <;> first | rfl | (simp [Value.oneCell'] at h)
  unfold Cat at *
  simp [this, ← r]
theorem Cat.agg {us vs cs : List Value} (r : Cat vs cs) : Cat (.agg us.toArray :: vs) (us ++ cs) := by
  unfold Cat at *
  rw [List.flatMap_cons, ← r]
  rfl
theorem Cat.agg2 {a b : Value} {vs cs : List Value} (r : Cat vs cs) : Cat (.agg #[a, b] :: vs) (a :: b :: cs) := Cat.agg (us := [a, b]) r
theorem Cat.agg3 {a b c : Value} {vs cs : List Value} (r : Cat vs cs) : Cat (.agg #[a, b, c] :: vs) (a :: b :: c :: cs) := Cat.agg (us := [a, b, c]) r
class CatC (vs : List Value) (cs : outParam (List Value)) : Prop where
  cat : Cat vs cs
instance : CatC [] [] := ⟨Cat.nil⟩
section
variable {vs cs : List Value} [h : CatC vs cs]
instance {k : IntKind} {m : Int} : CatC (.int k m :: vs) (.int k m :: cs) := ⟨Cat.one rfl h.cat⟩
instance {b : Bool} : CatC (.bool b :: vs) (.bool b :: cs) := ⟨Cat.one rfl h.cat⟩
instance {a : Option Addr} {l c : Nat} : CatC (.slice a l c :: vs) (.slice a l c :: cs) := ⟨Cat.one rfl h.cat⟩
instance {a : Option Addr} : CatC (.pointer a :: vs) (.pointer a :: cs) := ⟨Cat.one rfl h.cat⟩
instance {a : Option Nat} : CatC (.map a :: vs) (.map a :: cs) := ⟨Cat.one rfl h.cat⟩
instance {f : Fn} {a b : Array Value} : CatC (.func f a b :: vs) (.func f a b :: cs) := ⟨Cat.one rfl h.cat⟩
instance {t : TypeId} {v : Value} : CatC (.iface t v :: vs) (.iface t v :: cs) := ⟨Cat.one rfl h.cat⟩
instance (priority := 500) {us : List Value} : CatC (.agg us.toArray :: vs) (us ++ cs) := ⟨Cat.agg h.cat⟩
instance {a b : Value} : CatC (.agg #[a, b] :: vs) (a :: b :: cs) := ⟨Cat.agg2 h.cat⟩
instance {a b c : Value} : CatC (.agg #[a, b, c] :: vs) (a :: b :: c :: cs) := ⟨Cat.agg3 h.cat⟩
end
def PlaceOK (place : Nat → Option (Nat × Nat)) : Nat → Nat → List Value → Prop
  | _, _, [] => True
  | k, off, v :: r => place k = some (off, v.cells.size) ∧ PlaceOK place (k + 1) (off + v.cells.size) r
theorem foldl_seg : ∀ (l : List Value) (j0 off : Nat) (cells : Array Value), off + j0 + l.length ≤ cells.size →
    ((l.zipIdx j0).foldl (fun cs (x : Value × Nat) => cs.setIfInBounds (off + x.2) x.1) cells).toList = cells.toList.take (off + j0) ++ l ++ cells.toList.drop (off + j0 + l.length)
  | [], j0, off, cells, _ => by simp
  | v :: r, j0, off, cells, h => by
    simp only [List.length_cons] at h
    simp only [List.zipIdx_cons, List.foldl_cons]
    rw [foldl_seg r (j0 + 1) off (cells.setIfInBounds (off + j0) v) (by simp; omega)]
    have hlt : off + j0 < cells.toList.length := by simp; omega
    simp only [Array.toList_setIfInBounds, List.length_cons]
    rw [show off + (j0 + 1) = off + j0 + 1 from by omega, List.take_succ_eq_append_getElem (by simpa using hlt), List.take_set_of_le (Nat.le_refl _)]
    rw [List.drop_set_of_lt (by omega)]
    simp only [List.getElem_set_self, List.append_assoc, List.cons_append, List.nil_append]
    rw [show off + j0 + 1 + r.length = off + j0 + (r.length + 1) from by omega]
theorem fill_seq {place : Nat → Option (Nat × Nat)} : ∀ (vs : List Value) (k off : Nat) (cells : Array Value), PlaceOK place k off vs → off + (vs.flatMap fun v => v.cells.toList).length ≤ cells.size →
    ∃ arr, Instr.fill place cells ((List.range' k vs.length).zip vs) = some arr ∧ arr.toList = cells.toList.take off ++ (vs.flatMap fun v => v.cells.toList) ++ cells.toList.drop (off + (vs.flatMap fun v => v.cells.toList).length)
  | [], k, off, cells, _, _ => ⟨cells, by simp [Instr.fill], by simp⟩
  | v :: r, k, off, cells, hp, hl => by
    obtain ⟨h1, h2⟩ := hp
    simp only [List.flatMap_cons, List.length_append, Array.length_toList] at hl
    have hseg : (v.cells.zipIdx.foldl (fun cs (x : Value × Nat) => cs.setIfInBounds (off + x.2) x.1) cells).toList = cells.toList.take off ++ v.cells.toList ++ cells.toList.drop (off + v.cells.size) := by
      have := foldl_seg v.cells.toList 0 off cells (by simp; omega)
      rw [← Array.foldl_toList, Array.toList_zipIdx]
      simpa using this
    have hsz : (v.cells.zipIdx.foldl (fun cs (x : Value × Nat) => cs.setIfInBounds (off + x.2) x.1) cells).size = cells.size := by
      rw [← Array.length_toList, hseg]; simp; omega
    obtain ⟨arr, e1, e2⟩ := fill_seq r (k + 1) (off + v.cells.size) (v.cells.zipIdx.foldl (fun cs (x : Value × Nat) => cs.setIfInBounds (off + x.2) x.1) cells) h2 (by rw [hsz]; omega)
    refine ⟨arr, ?_, ?_⟩
    · simp only [List.length_cons, List.range'_succ, List.zip_cons_cons, Instr.fill, h1]
      rw [if_neg (by simp; omega)]
      exact e1
    · rw [e2, hseg]
      have hl1 : (cells.toList.take off ++ v.cells.toList).length = off + v.cells.size := by simp; omega
      rw [List.take_append_of_le_length (by omega), List.take_of_length_le (by omega)]
      have : (cells.toList.take off ++ v.cells.toList ++ cells.toList.drop (off + v.cells.size)).drop (off + v.cells.size + (r.flatMap fun v => v.cells.toList).length) = cells.toList.drop (off + v.cells.size + (r.flatMap fun v => v.cells.toList).length) := by
        rw [List.drop_append, List.drop_eq_nil_of_le (by rw [hl1]; omega), hl1, List.nil_append, List.drop_drop]
        congr 1; omega
      rw [this]
      simp only [List.flatMap_cons, List.append_assoc, List.length_append, Array.length_toList, Nat.add_assoc]
theorem fill_all {place : Nat → Option (Nat × Nat)} {vs cs : List Value} {cells : Array Value} (hp : PlaceOK place 0 0 vs) (hc : Cat vs cs) (hl : cs.length = cells.size) : Instr.fill place cells ((List.range vs.length).zip vs) = some cs.toArray := by
  have hf : cs = vs.flatMap fun v => v.cells.toList := hc
  obtain ⟨arr, e1, e2⟩ := fill_seq vs 0 0 cells hp (by rw [← hf]; omega)
  rw [List.range_eq_range', e1]
  congr 1
  apply Array.ext'
  rw [e2, ← hf]
  simp only [List.take_zero, List.nil_append, Nat.zero_add]
  rw [List.drop_eq_nil_of_le (by simp; omega)]
  simp
theorem evs_length : ∀ {xs : List Operand} {vs : List Value}, evs L xs = some vs → xs.length = vs.length
  | [], vs, h => by simp [evs] at h; subst h; rfl
  | x :: r, vs, h => by
    simp only [evs] at h
    split at h
    · split at h
      · rename_i us hus; cases h; simp [evs_length hus]
      · cases h
    · cases h
theorem parts_eq {a : Act} {ps : List (Nat × Operand)} {vs : List Value} (h1 : FSat n L a) (hx : evs L (ps.map (·.2)) = some vs) (hk : ps.map (·.1) = List.range ps.length) : ps.map (fun p => (p.1, a.eval p.2)) = (List.range vs.length).zip vs := by
  have h2 := h1.evs hx
  have hl := evs_length hx
  simp only [List.length_map] at hl
  rw [← hl, ← hk, ← h2]
  clear h2 hl hk hx
  induction ps with
  | nil => rfl
  | cons p r ih => simp only [List.map_cons, List.zip_cons_cons, ih]
theorem v_b0 {T : TypeId} {i : TypeInfo} {z : Value} {fs : Array Field} {pl : List (Nat × Nat)} {cs : List Value} (ho : o.op = .build T #[]) (hT : P.underlying T = some (.struct fs)) (hi : P.info? T = some i) (hp : ∀ w, (fs.mapM fun (f : Field) => (do pure (f.offset, ← sizeOf f.type) : Sem (Nat × Nat))).run P w = .ok pl.toArray w) (hz : i.zero = some z) (hc : z.cells = cs.toArray) : OpQ P W n L M R o (.agg cs.toArray) :=
  OpQ.of_value fun g w h1 _ => by
    simp only [execOp, ho, Instr.build, Sem.run_bind, run_zeroValue' hi hz, run_underlying hT, Result.andThen_ok, hp w]
    simp [Instr.fill, hc]
def plL (P : Program) : List Field → Option (List (Nat × Nat))
  | [] => some []
  | f :: r => match P.info? f.type with
    | some i => (match plL P r with | some l => some ((f.offset, i.size) :: l) | none => none)
    | none => none
def plT (P : Program) (t : TypeId) : Option (List (Nat × Nat)) := match P.underlying t with
  | some (.struct fs) => plL P fs.toList
  | _ => none
theorem plL_run : ∀ {l : List Field} {pl : List (Nat × Nat)}, plL P l = some pl → ∀ w, (l.mapM fun (f : Field) => (do pure (f.offset, ← sizeOf f.type) : Sem (Nat × Nat))).run P w = .ok pl w
  | [], pl, h, w => by simp only [plL, Option.some.injEq] at h; subst h; simp
  | f :: r, pl, h, w => by
    simp only [plL] at h
    split at h
    · rename_i i hi
      split at h
      · rename_i l hl
        cases h
        have ih := plL_run hl w
        simp only [bind_pure_comp] at ih ⊢
        simp [List.mapM_cons, run_sizeOf' hi, ih]
      · cases h
    · cases h
theorem plT_run {T : TypeId} {fs : Array Field} {pl : List (Nat × Nat)} (hT : P.underlying T = some (.struct fs)) (h : plT P T = some pl) : ∀ w, (fs.mapM fun (f : Field) => (do pure (f.offset, ← sizeOf f.type) : Sem (Nat × Nat))).run P w = .ok pl.toArray w := by
  intro w
  simp only [plT, hT] at h
  have := plL_run h w
  rw [Array.mapM_eq_mapM_toList]
  simp only [Functor.map]
  rw [Sem.run_bind', this]
  rfl
theorem v_bS {T : TypeId} {ps : List (Nat × Operand)} {vs : List Value} {i : TypeInfo} {z : Value} {fs : Array Field} {pl : List (Nat × Nat)} {cs : List Value} (ho : o.op = .build T ps.toArray) (hT : P.underlying T = some (.struct fs)) (hi : P.info? T = some i) (hp : plT P T = some pl) (hz : i.zero = some z)
    (hx : evs L (ps.map (·.2)) = some vs) (hk : ps.map (·.1) = List.range ps.length) (hpl : PlaceOK (fun k => pl[k]?) 0 0 vs) [hc : CatC vs cs] (hl : cs.length = z.cells.size) : OpQ P W n L M R o (.agg cs.toArray) :=
  OpQ.of_value fun g w h1 _ => by
    have hu := parts_eq h1 hx hk
    have hf := fill_all hpl hc.cat hl
    simp only [execOp, ho, Instr.build, Sem.run_bind, run_zeroValue' hi hz, run_underlying hT, Result.andThen_ok, plT_run hT hp w, List.map_toArray, hu]
    simp [hf]
theorem v_bS0 {T : TypeId} {i : TypeInfo} {z : Value} {fs : Array Field} {pl : List (Nat × Nat)} {cs : List Value} (ho : o.op = .build T #[]) (hT : P.underlying T = some (.struct fs)) (hi : P.info? T = some i) (hp : plT P T = some pl) (hz : i.zero = some z) (hc : z.cells = cs.toArray) : OpQ P W n L M R o (.agg cs.toArray) :=
  v_b0 ho hT hi (plT_run hT hp) hz hc
theorem v_len {t : TypeId} {x : Operand} {e : TypeId} {oa : Option Addr} {l c : Nat} {ts : Array TypeId} (ho : o.op = .call { callee := .builtin .len, args := #[x], argTypes := ts }) (ht : ts[0]? = some t) (hT : P.underlying t = some (.slice e))
    (hx : ev L x = some (.slice oa l c)) : OpQ P W n L M R o (.int .i64 l) :=
  OpQ.of_value fun g w h1 _ => by
    simp [execOp, ho, resolve, invoke, builtin, h1.ev hx, Builtin.len_, ht, run_underlying hT, goInt]
theorem v_max2 {x y : Operand} {k : IntKind} {a b : Int} {ts : Array TypeId} (ho : o.op = .call { callee := .builtin .max, args := #[x, y], argTypes := ts }) (hx : ev L x = some (.int k a)) (hy : ev L y = some (.int k b)) : OpQ P W n L M R o (.int k (max a b)) :=
  OpQ.of_value fun g w h1 _ => by
    have : max a b = if b > a then b else a := by split <;> omega
    simp [execOp, ho, resolve, invoke, builtin, h1.ev hx, h1.ev hy, Builtin.max_, Builtin.max2, this]
theorem v_min2 {x y : Operand} {k : IntKind} {a b : Int} {ts : Array TypeId} (ho : o.op = .call { callee := .builtin .min, args := #[x, y], argTypes := ts }) (hx : ev L x = some (.int k a)) (hy : ev L y = some (.int k b)) : OpQ P W n L M R o (.int k (min a b)) :=
  OpQ.of_value fun g w h1 _ => by
    have : min a b = if b < a then b else a := by split <;> omega
    simp [execOp, ho, resolve, invoke, builtin, h1.ev hx, h1.ev hy, Builtin.min_, Builtin.min2, this]
theorem o_box {ops : Array Oper} {rest : List Oper} {T : TypeId} {x : Operand} {v : Value} {d : Nat} (ho : o.op = .box T x) (hg : o.guard = none) (hdst : o.dst = some d) (hd : Nat.blt d n = true) (hx : ev L x = some v)
    (h : ∀ b, Imp W n D ((d, pt b 0) :: L) (bx b T v.cells.toList :: M) R (wpList P ops Q rest)) : Imp W n D L M R (wpList P ops Q (o :: rest)) := by
  intro a w h1 h2 h3
  refine wpList_plain hg fun K hK => ?_
  unfold Oper.wp
  have hr : (execOp a.eval o).run P w = .ok (.value (pt w.heap.size 0)) (w.alloc (.cells v.cells T)) := by
    simp [execOp, ho, h1.ev hx, Instr.box, newVar, newRow, newObj, Sem.run, pt]
  rw [hr, Oper.upon_value, hdst]
  refine hK _ _ (h w.heap.size _ _ (h1.put (by simpa using hd) _) (by rw [put_defers]; exact h2) ?_)
  have := h3.push (.cells v.cells T)
  simpa [bx] using this
theorem o_boxA {ops : Array Oper} {rest : List Oper} {T : TypeId} {x : Operand} {us : List Value} {d : Nat} (ho : o.op = .box T x) (hg : o.guard = none) (hdst : o.dst = some d) (hd : Nat.blt d n = true) (hx : ev L x = some (.agg us.toArray))
    (h : ∀ b, Imp W n D ((d, pt b 0) :: L) (bx b T us :: M) R (wpList P ops Q rest)) : Imp W n D L M R (wpList P ops Q (o :: rest)) := o_box ho hg hdst hd hx h
theorem o_box1 {ops : Array Oper} {rest : List Oper} {T : TypeId} {x : Operand} {v : Value} {d : Nat} (ho : o.op = .box T x) (hg : o.guard = none) (hdst : o.dst = some d) (hd : Nat.blt d n = true) (hx : ev L x = some v) (h1 : v.oneCell' = true)
    (h : ∀ b, Imp W n D ((d, pt b 0) :: L) (bx b T [v] :: M) R (wpList P ops Q rest)) : Imp W n D L M R (wpList P ops Q (o :: rest)) :=
  o_box ho hg hdst hd hx (fun b => by
    have : v.cells.toList = [v] := by cases v <;> first | rfl | (simp [Value.oneCell'] at h1)
    rw [this]; exact h b)
theorem o_alloc {ops : Array Oper} {rest : List Oper} {T : TypeId} {i : TypeInfo} {z : Value} {zs : List Value} {d : Nat} (ho : o.op = .alloc T) (hi : P.info? T = some i) (hz : i.zero = some z) (hzc : z.cells.toList = zs) (hg : o.guard = none) (hdst : o.dst = some d) (hd : Nat.blt d n = true)
    (h : ∀ b, Imp W n D ((d, pt b 0) :: L) (bx b T zs :: M) R (wpList P ops Q rest)) : Imp W n D L M R (wpList P ops Q (o :: rest)) := by
  subst hzc
  intro a w h1 h2 h3
  refine wpList_plain hg fun K hK => ?_
  unfold Oper.wp
  have hr : (execOp a.eval o).run P w = .ok (.value (pt w.heap.size 0)) (w.alloc (.cells z.cells T)) := by
    simp [execOp, ho, Instr.alloc, run_zeroValue' hi hz, newVar, newRow, newObj, Sem.run, pt]
  rw [hr, Oper.upon_value, hdst]
  refine hK _ _ (h w.heap.size _ _ (h1.put (by simpa using hd) _) (by rw [put_defers]; exact h2) ?_)
  have := h3.push (.cells z.cells T)
  simpa [bx] using this
def splice (vs : List Value) (off : Nat) : List Value → List Value
  | [] => vs
  | u :: us => splice (vs.set off u) (off + 1) us
theorem run_storeCells' {b : Nat} {T : TypeId} : ∀ (us : List Value) (off : Nat) {M M' : List Res} {vs : List Value} {w : World} (i : Nat), St W M R w → Upd M (bx b T vs) (bx b T (splice vs (off + i) us)) M' → (∀ u ∈ us, u.oneCell' = true) → off + i + us.length ≤ vs.length →
    ∃ w', (storeCells ⟨b, off, none⟩ us i).run P w = .ok () w' ∧ St W M' R w'
  | [], off, M, M', vs, w, i, h, hu, _, _ => by
    obtain ⟨A, B, rfl, rfl⟩ := hu
    exact ⟨w, rfl, h⟩
  | u :: us, off, M, M', vs, w, i, h, hu, h1, hl => by
    obtain ⟨A, B, rfl, rfl⟩ := hu
    simp only [List.length_cons] at hl
    have hm : bx b T vs ∈ A ++ bx b T vs :: B := by simp
    have hc := h.cell hm (off + i)
    rw [List.getElem?_eq_getElem (show off + i < vs.length by omega)] at hc
    have hfz : w.frozen? ⟨b, off + i, none⟩ = false := frozen_of_row w b _ _ T (h.bl hm)
    have hrun : (store ((⟨b, off, none⟩ : Addr).add i) u).run P w = .ok () (w.setCell ⟨b, off + i, none⟩ u) := by
      rw [add_at, run_store P w _ u .plain (h1 u (by simp)), hc]
      simp [hfz]
    have hst : St W (A ++ bx b T (vs.set (off + i) u) :: B) R (w.setCell ⟨b, off + i, none⟩ u) := by
      refine h.replace ⟨A, B, rfl, rfl⟩ rfl rfl rfl ?_
      intro s hs hO
      have hs' : s = [(b, .cells vs.toArray T (0, 0))] := hs
      subst hs'
      refine ⟨[(b, .cells (vs.set (off + i) u).toArray T (0, 0))], rfl, ⟨by simp [keys], ?_⟩, ?_, ?_⟩
      · intro p hp
        simp only [List.mem_singleton] at hp
        subst hp
        rw [heap_setCell_same w b (off + i) vs.toArray T u (h.bl hm)]
        simp
      · intro k hk; left; simpa [keys] using hk
      · intro k _ hk
        exact heap_setCell_other w _ k u (by simpa [keys] using hk)
    obtain ⟨w', hr, hw'⟩ := run_storeCells' us off (i + 1) hst ⟨A, B, rfl, rfl⟩ (fun x hx => h1 x (by simp [hx])) (by simp; omega)
    refine ⟨w', ?_, by simpa [splice, Nat.add_assoc] using hw'⟩
    simp only [storeCells, Sem.run_bind, hrun, Result.andThen_ok, hr]
def oneCells : List Value → Bool
  | [] => true
  | v :: r => v.oneCell' && oneCells r
theorem oneCells_mem : ∀ {us : List Value}, oneCells us = true → ∀ u ∈ us, u.oneCell' = true
  | [], _, u, hu => by cases hu
  | v :: r, h, u, hu => by
    simp only [oneCells, Bool.and_eq_true] at h
    rcases List.mem_cons.1 hu with rfl | hu
    · exact h.1
    · exact oneCells_mem h.2 u hu
theorem o_store {ops : Array Oper} {rest : List Oper} {T B : TypeId} {x y : Operand} {b off : Nat} {v : Value} {us vs : List Value} {i : TypeInfo} {M' : List Res} (ho : o.op = .store T x y) (hi : P.info? T = some i) (hg : o.guard = none) (hdst : o.dst = none)
    (hx : ev L x = some (pt b off)) (hy : ev L y = some v) (hc : v.cells.toList = us) (hsz : us.length = i.size) (h1 : oneCells us = true) (hu : Upd M (bx b B vs) (bx b B (splice vs off us)) M') (hl : off + us.length ≤ vs.length)
    (h : Imp W n D L M' R (wpList P ops Q rest)) : Imp W n D L M R (wpList P ops Q (o :: rest)) := by
  intro a w g1 g2 g3
  refine wpList_plain hg fun K hK => ?_
  unfold Oper.wp
  obtain ⟨w', hr, hw'⟩ := run_storeCells' (P := P) us off 0 g3 (by simpa using hu) (oneCells_mem h1) (by simpa using hl)
  have hcs : v.cells.size = i.size := by rw [← hsz, ← hc]; simp
  have hrun : (execOp a.eval o).run P w = .ok .skip w' := by
    simp [execOp, ho, g1.ev hx, g1.ev hy, Instr.storeAt, pt, Instr.sureAddr, storeVar, run_sizeOf' hi, hcs, hc, hr]
  rw [hrun, Oper.upon_skip, hdst]
  exact hK _ _ (h _ w' g1 g2 hw')
end Go.G

namespace Go.G
variable {P : Program} {W : World} {n : Nat} {D : List Deferred} {L : Tm} {M : List Res} {R : List Fact} {Q : Exit → Act → World → Prop} {ops : Array Oper} {o : Oper} {rest : List Oper} {x : Operand} {v : Value} {d : Nat}
theorem q_mv (hg : o.guard = none) (hdst : o.dst = some d) (hd : Nat.blt d n = true) (ho : o.op = .move x) (hx : ev L x = some v) (h : Imp W n D ((d, v) :: L) M R (wpList P ops Q rest)) : Imp W n D L M R (wpList P ops Q (o :: rest)) := o_q v hg hdst hd (v_move ho hx) h
theorem q_as (hg : o.guard = none) (hdst : o.dst = some d) (hd : Nat.blt d n = true) (ho : o.op = .assign x) (hx : ev L x = some v) (h : Imp W n D ((d, v) :: L) M R (wpList P ops Q rest)) : Imp W n D L M R (wpList P ops Q (o :: rest)) := o_q v hg hdst hd (v_assign ho hx) h
end Go.G

open Go.Proofs Go.G
namespace Go.Proofs.YtpndeonmmcaikaaGreat
theorem inf3 : Tryz.prog.info? 3 = some Tryz.t3 := by kernel_rfl
theorem inf4 : Tryz.prog.info? 4 = some Tryz.t4 := by kernel_rfl
theorem inf22 : Tryz.prog.info? 22 = some Tryz.t22 := by kernel_rfl
theorem inf23 : Tryz.prog.info? 23 = some Tryz.t23 := by kernel_rfl
theorem inf25 : Tryz.prog.info? 25 = some Tryz.t25 := by kernel_rfl
theorem plt25 : plT Tryz.prog 25 = some [(0, 1), (1, 1), (2, 1), (3, 1)] := by kernel_rfl
theorem inf26 : Tryz.prog.info? 26 = some Tryz.t26 := by kernel_rfl
theorem inf27 : Tryz.prog.info? 27 = some Tryz.t27 := by kernel_rfl
theorem inf28 : Tryz.prog.info? 28 = some Tryz.t28 := by kernel_rfl
theorem inf30 : Tryz.prog.info? 30 = some Tryz.t30 := by kernel_rfl
theorem plt30 : plT Tryz.prog 30 = some [(0, 1), (1, 1), (2, 1), (3, 1)] := by kernel_rfl
theorem inf39 : Tryz.prog.info? 39 = some Tryz.t39 := by kernel_rfl
theorem inf41 : Tryz.prog.info? 41 = some Tryz.t41 := by kernel_rfl
theorem plt41 : plT Tryz.prog 41 = some [(0, 1), (1, 1)] := by kernel_rfl
theorem inf43 : Tryz.prog.info? 43 = some Tryz.t43 := by kernel_rfl
theorem plt43 : plT Tryz.prog 43 = some [(0, 1), (1, 1)] := by kernel_rfl
theorem inf46 : Tryz.prog.info? 46 = some Tryz.t46 := by kernel_rfl
theorem plt46 : plT Tryz.prog 46 = some [(0, 1), (1, 1), (2, 1)] := by kernel_rfl
theorem inf47 : Tryz.prog.info? 47 = some Tryz.t47 := by kernel_rfl
theorem inf53 : Tryz.prog.info? 53 = some Tryz.t53 := by kernel_rfl
theorem plt53 : plT Tryz.prog 53 = some [(0, 2), (2, 2)] := by kernel_rfl
theorem inf84 : Tryz.prog.info? 84 = some Tryz.t84 := by kernel_rfl
theorem plt84 : plT Tryz.prog 84 = some [(0, 1), (1, 2), (3, 2)] := by kernel_rfl
theorem inf88 : Tryz.prog.info? 88 = some Tryz.t88 := by kernel_rfl
theorem inf92 : Tryz.prog.info? 92 = some Tryz.t92 := by kernel_rfl
theorem plt92 : plT Tryz.prog 92 = some [(0, 1), (1, 1)] := by kernel_rfl
theorem inf97 : Tryz.prog.info? 97 = some Tryz.t97 := by kernel_rfl
theorem inf101 : Tryz.prog.info? 101 = some Tryz.t101 := by kernel_rfl
theorem plt101 : plT Tryz.prog 101 = some [(0, 4)] := by kernel_rfl
theorem inf103 : Tryz.prog.info? 103 = some Tryz.t103 := by kernel_rfl
theorem inf108 : Tryz.prog.info? 108 = some Tryz.t108 := by kernel_rfl
theorem plt108 : plT Tryz.prog 108 = some [] := by kernel_rfl
theorem inf110 : Tryz.prog.info? 110 = some Tryz.t110 := by kernel_rfl
theorem plt110 : plT Tryz.prog 110 = some [(0, 0), (0, 1), (1, 1)] := by kernel_rfl
theorem inf111 : Tryz.prog.info? 111 = some Tryz.t111 := by kernel_rfl
theorem inf114 : Tryz.prog.info? 114 = some Tryz.t114 := by kernel_rfl
theorem inf116 : Tryz.prog.info? 116 = some Tryz.t116 := by kernel_rfl
theorem inf123 : Tryz.prog.info? 123 = some Tryz.t123 := by kernel_rfl
theorem inf127 : Tryz.prog.info? 127 = some Tryz.t127 := by kernel_rfl
theorem plt127 : plT Tryz.prog 127 = some [(0, 5), (5, 1), (6, 2)] := by kernel_rfl
theorem inf129 : Tryz.prog.info? 129 = some Tryz.t129 := by kernel_rfl
theorem inf131 : Tryz.prog.info? 131 = some Tryz.t131 := by kernel_rfl
theorem plt131 : plT Tryz.prog 131 = some [(0, 1)] := by kernel_rfl
theorem inf172 : Tryz.prog.info? 172 = some Tryz.t172 := by kernel_rfl
theorem plt172 : plT Tryz.prog 172 = some [(0, 1), (1, 2)] := by kernel_rfl
theorem inf179 : Tryz.prog.info? 179 = some Tryz.t179 := by kernel_rfl
theorem inf181 : Tryz.prog.info? 181 = some Tryz.t181 := by kernel_rfl
theorem plt181 : plT Tryz.prog 181 = some [(0, 4), (4, 1)] := by kernel_rfl
theorem inf191 : Tryz.prog.info? 191 = some Tryz.t191 := by kernel_rfl
theorem inf239 : Tryz.prog.info? 239 = some Tryz.t239 := by kernel_rfl
theorem inf241 : Tryz.prog.info? 241 = some Tryz.t241 := by kernel_rfl
theorem plt241 : plT Tryz.prog 241 = some [(0, 4), (4, 1)] := by kernel_rfl
theorem inf242 : Tryz.prog.info? 242 = some Tryz.t242 := by kernel_rfl
theorem inf248 : Tryz.prog.info? 248 = some Tryz.t248 := by kernel_rfl
theorem inf259 : Tryz.prog.info? 259 = some Tryz.t259 := by kernel_rfl
theorem plt259 : plT Tryz.prog 259 = some [(0, 1)] := by kernel_rfl
theorem inf261 : Tryz.prog.info? 261 = some Tryz.t261 := by kernel_rfl
theorem plt261 : plT Tryz.prog 261 = some [(0, 1), (1, 1)] := by kernel_rfl
theorem inf296 : Tryz.prog.info? 296 = some Tryz.t296 := by kernel_rfl
theorem inf304 : Tryz.prog.info? 304 = some Tryz.t304 := by kernel_rfl
theorem inf312 : Tryz.prog.info? 312 = some Tryz.t312 := by kernel_rfl
theorem inf314 : Tryz.prog.info? 314 = some Tryz.t314 := by kernel_rfl
theorem mixed : Tryz.prog.follows .mixedOrders = true := by kernel_rfl
end Go.Proofs.YtpndeonmmcaikaaGreat

namespace Go.G
variable {P : Program} {W : World} {n : Nat} {D : List Deferred} {L : Tm} {M : List Res} {R : List Fact} {Q : Exit → Act → World → Prop} {o : Oper}
class HasBox (b : Nat) (M : List Res) (B : outParam TypeId) (vs : outParam (List Value)) : Prop where
  mem : bx b B vs ∈ M
instance HasBox.head {b : Nat} {B : TypeId} {vs : List Value} {M : List Res} : HasBox b (bx b B vs :: M) B vs := ⟨by simp⟩
instance HasBox.tail {b : Nat} {B : TypeId} {vs : List Value} {r : Res} {M : List Res} [h : HasBox b M B vs] : HasBox b (r :: M) B vs := ⟨List.mem_cons_of_mem _ h.mem⟩
class UpdBox (b : Nat) (M : List Res) (B : outParam TypeId) (vs : outParam (List Value)) (vs' : List Value) (M' : outParam (List Res)) : Prop where
  upd : Upd M (bx b B vs) (bx b B vs') M'
instance UpdBox.head {b : Nat} {B : TypeId} {vs vs' : List Value} {M : List Res} : UpdBox b (bx b B vs :: M) B vs vs' (bx b B vs' :: M) := ⟨Upd.here⟩
instance UpdBox.tail {b : Nat} {B : TypeId} {vs vs' : List Value} {r : Res} {M M' : List Res} [h : UpdBox b M B vs vs' M'] : UpdBox b (r :: M) B vs vs' (r :: M') := ⟨Upd.there h.upd⟩
class InR (φ : Fact) (R : List Fact) : Prop where
  mem : φ ∈ R
instance InR.head {φ : Fact} {R : List Fact} : InR φ (φ :: R) := ⟨by simp⟩
instance InR.tail {φ ψ : Fact} {R : List Fact} [h : InR φ R] : InR φ (ψ :: R) := ⟨List.mem_cons_of_mem _ h.mem⟩
instance InR.appl {φ : Fact} {A B : List Fact} [h : InR φ A] : InR φ (A ++ B) := ⟨List.mem_append_left _ h.mem⟩
instance InR.appr {φ : Fact} {A B : List Fact} [h : InR φ B] : InR φ (A ++ B) := ⟨List.mem_append_right _ h.mem⟩
class SubRC (R R' : List Fact) : Prop where
  sub : SubR R R'
instance (priority := 2000) SubRC.refl {R : List Fact} : SubRC R R := ⟨SubR.refl⟩
instance (priority := 1500) SubRC.nil {R : List Fact} : SubRC R [] := ⟨SubR.nil⟩
instance (priority := 1400) SubRC.cons {φ : Fact} {R R' : List Fact} [h : InR φ R] [h' : SubRC R R'] : SubRC R (φ :: R') := ⟨SubR.cons h.mem h'.sub⟩
instance (priority := 1300) SubRC.app {R A B : List Fact} [h : SubRC R A] [h' : SubRC R B] : SubRC R (A ++ B) := ⟨SubR.append h.sub h'.sub⟩
instance (priority := 500) SubRC.skip {φ : Fact} {R R' : List Fact} [h : SubRC R R'] : SubRC (φ :: R) R' := ⟨SubR.skip h.sub⟩
instance (priority := 400) SubRC.skipl {A R R' : List Fact} [h : SubRC R R'] : SubRC (A ++ R) R' := ⟨fun φ hφ => List.mem_append_right _ (h.sub φ hφ)⟩
class DelC (M : List Res) (r : Res) (M' : outParam (List Res)) : Prop where
  del : Del M r M'
instance DelC.head {r : Res} {M : List Res} : DelC (r :: M) r M := ⟨Del.here⟩
instance DelC.tail {r x : Res} {M M' : List Res} [h : DelC M r M'] : DelC (x :: M) r (x :: M') := ⟨Del.there h.del⟩
class SelMC (M M' : List Res) : Prop where
  sel : SelM M M'
instance (priority := 2000) SelMC.refl {M : List Res} : SelMC M M := ⟨SelM.refl⟩
instance (priority := 1400) SelMC.pick {r : Res} {M M1 M' : List Res} [hd : DelC M r M1] [h : SelMC M1 M'] : SelMC M (r :: M') := ⟨SelM.pick hd.del h.sel⟩
instance (priority := 500) SelMC.drop {r : Res} {M M' : List Res} [h : SelMC M M'] : SelMC (r :: M) M' := ⟨SelM.drop h.sel⟩
def rowD {α : Type} (oa : Option Addr) (sz : Nat) (enc : α → List Value) (xs : List α) : Fact := fun V =>
  xs = [] ∨ ∃ b off C T fr, oa = some ⟨b, off, none⟩ ∧ V b = some (.cells C T fr) ∧ ∀ (i j : Nat) (h : i < xs.length), j < sz → C[off + i * sz + j]? = (enc xs[i])[j]?
class HasRow {α : outParam Type} (oa : Option Addr) (R : List Fact) (sz : outParam Nat) (enc : outParam (α → List Value)) (xs : outParam (List α)) : Prop where
  mem : rowD oa sz enc xs ∈ R
instance HasRow.head {α : Type} {oa : Option Addr} {sz : Nat} {enc : α → List Value} {xs : List α} {R : List Fact} : HasRow oa (rowD oa sz enc xs :: R) sz enc xs := ⟨by simp⟩
instance HasRow.tail {α : Type} {oa : Option Addr} {sz : Nat} {enc : α → List Value} {xs : List α} {φ : Fact} {R : List Fact} [h : HasRow oa R sz enc xs] : HasRow oa (φ :: R) sz enc xs := ⟨List.mem_cons_of_mem _ h.mem⟩
instance HasRow.appl {α : Type} {oa : Option Addr} {sz : Nat} {enc : α → List Value} {xs : List α} {A B : List Fact} [h : HasRow oa A sz enc xs] : HasRow oa (A ++ B) sz enc xs := ⟨List.mem_append_left _ h.mem⟩
instance HasRow.appr {α : Type} {oa : Option Addr} {sz : Nat} {enc : α → List Value} {xs : List α} {A B : List Fact} [h : HasRow oa B sz enc xs] : HasRow oa (A ++ B) sz enc xs := ⟨List.mem_append_right _ h.mem⟩
def pe (oa : Option Addr) (i sz j : Nat) : Value := .pointer (some ⟨(oa.getD ⟨0, 0, none⟩).block, (oa.getD ⟨0, 0, none⟩).off + i * sz + j, none⟩)
section rows
variable {α : Type} {oa : Option Addr} {sz : Nat} {enc : α → List Value} {xs : List α}
theorem St.row {w : World} (h : St W M R w) (hm : rowD oa sz enc xs ∈ R) (hne : 0 < xs.length) : ∃ b off, oa = some ⟨b, off, none⟩ ∧ ∀ (i j : Nat) (h : i < xs.length), j < sz → w.cell? ⟨b, off + i * sz + j, none⟩ = (enc xs[i])[j]? := by
  rcases h.fact hm with h0 | ⟨b, off, C, T, fr, h1, h2, h3⟩
  · subst h0; simp at hne
  · refine ⟨b, off, h1, fun i j hi hj => ?_⟩
    have h2' : w.heap[b]? = some (.cells C T fr) := h2
    rw [cell_of_row w b _ C T fr h2']; exact h3 i j hi hj
theorem v_indexAddrS {T : TypeId} {x ix : Operand} {l c : Nat} {e : TypeId} {i : TypeInfo} {k : Int} {kd : IntKind} [hr : HasRow oa R sz enc xs] (ho : o.op = .indexAddr T x ix) (hT : P.underlying T = some (.slice e)) (hi : P.info? e = some i)
    (hx : ev L x = some (.slice oa l c)) (hk : ev L ix = some (.int kd k)) (hsz : i.size = sz) (h0 : 0 ≤ k) (h1 : k < l) (hl : l = xs.length) : OpQ P W n L M R o (pe oa k.toNat sz 0) :=
  OpQ.of_value fun g w g1 g2 => by
    subst hl hsz
    obtain ⟨b, off, rfl, _⟩ := g2.row hr.mem (by omega)
    simp [execOp, ho, g1.ev hx, g1.ev hk, Instr.indexAt, run_underlying hT, asIntOf, h0, h1, run_sizeOf' hi, add_at, pe]
theorem v_indexAddrSn {T : TypeId} {x ix : Operand} {l c : Nat} {e : TypeId} {i : TypeInfo} {k : Nat} {kd : IntKind} [hr : HasRow oa R sz enc xs] (ho : o.op = .indexAddr T x ix) (hT : P.underlying T = some (.slice e)) (hi : P.info? e = some i)
    (hx : ev L x = some (.slice oa l c)) (hk : ev L ix = some (.int kd (k : Int))) (hsz : i.size = sz) (h1 : k < l) (hl : l = xs.length) : OpQ P W n L M R o (pe oa k sz 0) := by
  have := v_indexAddrS (P := P) (W := W) (n := n) (L := L) (M := M) (R := R) ho hT hi hx hk hsz (by omega) (by omega) hl
  simpa using this
theorem v_indexAddrAn {T : TypeId} {x ix : Operand} {b off len : Nat} {e : TypeId} {i : TypeInfo} {k : Nat} {kd : IntKind} (ho : o.op = .indexAddr T x ix) (hT : P.underlying T = some (.array len e)) (hi : P.info? e = some i)
    (hx : ev L x = some (pt b off)) (hk : ev L ix = some (.int kd (k : Int))) (h : k < len) : OpQ P W n L M R o (pt b (off + k * i.size)) := by
  have := v_indexAddrA (P := P) (W := W) (n := n) (L := L) (M := M) (R := R) ho hT hi hx hk (by omega)
  simpa using this
theorem v_loadE1 [Inhabited α] {T : TypeId} {x : Operand} {a j : Nat} {v : Value} {d : TypeDesc} [hr : HasRow oa R sz enc xs] (ho : o.op = .load T x) (hT : P.underlying T = some d) (hd : aggD d = false)
    (hx : ev L x = some (pe oa a sz j)) (ha : a < xs.length) (hj : Nat.blt j sz = true) (hv : (enc (xs.getD a default))[j]? = some v) : OpQ P W n L M R o v :=
  OpQ.of_value fun f w h1 h2 => by
    obtain ⟨b, off, rfl, hc⟩ := h2.row hr.mem (by omega)
    have hcell := hc a j ha (by simpa using hj)
    rw [show xs.getD a default = xs[a] from by simp [List.getD, ha]] at hv
    rw [hv] at hcell
    have hagg := run_isAgg' (w := w) hT
    rw [hd] at hagg
    simp [execOp, ho, h1.ev hx, Instr.loadAt, pe, Instr.sureAddr, loadVar, hagg, hcell]
theorem v_loadEN [Inhabited α] {T : TypeId} {x : Operand} {a j0 : Nat} {us : List Value} {d : TypeDesc} {i : TypeInfo} [hr : HasRow oa R sz enc xs] (ho : o.op = .load T x) (hT : P.underlying T = some d) (hd : aggD d = true) (hi : P.info? T = some i)
    (hx : ev L x = some (pe oa a sz j0)) (ha : a < xs.length) (hj : Nat.ble (j0 + i.size) sz = true) (hu : ((enc (xs.getD a default)).drop j0).take i.size = us) (hl : us.length = i.size) : OpQ P W n L M R o (.agg us.toArray) :=
  OpQ.of_value fun f w h1 h2 => by
    obtain ⟨b, off, rfl, hc⟩ := h2.row hr.mem (by omega)
    have hj' : j0 + i.size ≤ sz := by simpa using hj
    rw [show xs.getD a default = xs[a] from by simp [List.getD, ha]] at hu
    have hagg := run_isAgg' (w := w) hT
    rw [hd] at hagg
    have hlc : (loadCells ⟨b, off + a * sz + j0, none⟩ i.size).run P w = .ok us.toArray w := by
      rw [← hl]
      refine run_loadCells_list w _ us fun j v hjv => ?_
      have hlt : j < us.length := (List.getElem?_eq_some_iff.1 hjv).1
      rw [add_at, Nat.add_assoc, hc a (j0 + j) ha (by omega), ← hjv, ← hu, List.getElem?_take, if_pos (by omega), List.getElem?_drop]
    simp [execOp, ho, h1.ev hx, Instr.loadAt, pe, Instr.sureAddr, loadVar, hagg, run_sizeOf' hi, hlc]
end rows
theorem v_ld1 {T : TypeId} {x : Operand} {b off : Nat} {B : TypeId} {vs : List Value} {v : Value} {d : TypeDesc} [hm : HasBox b M B vs] (ho : o.op = .load T x) (hT : P.underlying T = some d) (hd : aggD d = false)
    (hx : ev L x = some (pt b off)) (hv : vs[off]? = some v) : OpQ P W n L M R o v := v_load1 ho hT hd hx hm.mem hv
theorem v_ldW {T : TypeId} {x : Operand} {b : Nat} {B : TypeId} {vs : List Value} {d : TypeDesc} {i : TypeInfo} [hm : HasBox b M B vs] (ho : o.op = .load T x) (hT : P.underlying T = some d) (hd : aggD d = true) (hi : P.info? T = some i)
    (hx : ev L x = some (pt b 0)) (hu : vs.length = i.size) : OpQ P W n L M R o (.agg vs.toArray) := v_loadW ho hT hd hi hx hm.mem hu
theorem v_ldN {T : TypeId} {x : Operand} {b off : Nat} {B : TypeId} {vs us : List Value} {d : TypeDesc} {i : TypeInfo} [hm : HasBox b M B vs] (ho : o.op = .load T x) (hT : P.underlying T = some d) (hd : aggD d = true) (hi : P.info? T = some i)
    (hx : ev L x = some (pt b off)) (hu : (vs.drop off).take i.size = us) (hl : us.length = i.size) : OpQ P W n L M R o (.agg us.toArray) :=
  v_loadN ho hT hd hi hx hm.mem hl (fun j hj => by rw [← hu, List.getElem?_take, if_pos hj, List.getElem?_drop])
theorem o_st {ops : Array Oper} {rest : List Oper} {T B : TypeId} {x y : Operand} {b off : Nat} {v : Value} {us vs : List Value} {i : TypeInfo} {M' : List Res} (ho : o.op = .store T x y) (hi : P.info? T = some i) (hg : o.guard = none) (hdst : o.dst = none)
    (hx : ev L x = some (pt b off)) (hy : ev L y = some v) (hc : v.cells.toList = us) (hsz : us.length = i.size) (h1 : oneCells us = true) [_hb : HasBox b M B vs] [hu : UpdBox b M B vs (splice vs off us) M'] (hl : Nat.ble (off + us.length) vs.length = true)
    (h : Imp W n D L M' R (wpList P ops Q rest)) : Imp W n D L M R (wpList P ops Q (o :: rest)) :=
  o_store ho hi hg hdst hx hy hc hsz h1 hu.upd (Nat.le_of_ble_eq_true hl) h
theorem o_test {ops : Array Oper} {rest : List Oper} {c : Prop} [Decidable c] (hg : o.guard = none) {d : Nat} (hdst : o.dst = some d) (hd : Nat.blt d n = true) (ho : OpQ P W n L M R o (.bool (decide c)))
    (ht : c → Imp W n D ((d, .bool true) :: L) M R (wpList P ops Q rest)) (hf : ¬ c → Imp W n D ((d, .bool false) :: L) M R (wpList P ops Q rest)) : Imp W n D L M R (wpList P ops Q (o :: rest)) := by
  by_cases hc : c
  · exact o_q _ hg hdst hd (v_true ho hc) (ht hc)
  · exact o_q _ hg hdst hd (v_false ho hc) (hf hc)
theorem o_gtest {ops : Array Oper} {rest : List Oper} {c : Prop} [Decidable c] {j : Nat} {b : Bool} (hg : o.guard = some (j, b)) (hs : said ops L j = some b) {d : Nat} (hdst : o.dst = some d) (hd : Nat.blt d n = true) (ho : OpQ P W n L M R o (.bool (decide c)))
    (ht : c → Imp W n D ((d, .bool true) :: L) M R (wpList P ops Q rest)) (hf : ¬ c → Imp W n D ((d, .bool false) :: L) M R (wpList P ops Q rest)) : Imp W n D L M R (wpList P ops Q (o :: rest)) := by
  by_cases hc : c
  · exact o_g _ hg hs hdst hd (v_true ho hc) (ht hc)
  · exact o_g _ hg hs hdst hd (v_false ho hc) (hf hc)
theorem q_test {ops : Array Oper} {rest : List Oper} {C : Act → Prop} {c : Prop} [Decidable c] (hg : o.guard = none) {d : Nat} (hdst : o.dst = some d) (hd : Nat.blt d n = true) (ho : OpQ P W n L M R o (.bool (decide c)))
    (ht : c → ImpQ n D ((d, .bool true) :: L) (wpQuiet P ops (St W M R) C rest)) (hf : ¬ c → ImpQ n D ((d, .bool false) :: L) (wpQuiet P ops (St W M R) C rest)) : ImpQ n D L (wpQuiet P ops (St W M R) C (o :: rest)) := by
  by_cases hc : c
  · exact q_q _ hg hdst hd (v_true ho hc) (ht hc)
  · exact q_q _ hg hdst hd (v_false ho hc) (hf hc)
theorem q_gtest {ops : Array Oper} {rest : List Oper} {C : Act → Prop} {c : Prop} [Decidable c] {j : Nat} {b : Bool} (hg : o.guard = some (j, b)) (hs : said ops L j = some b) {d : Nat} (hdst : o.dst = some d) (hd : Nat.blt d n = true) (ho : OpQ P W n L M R o (.bool (decide c)))
    (ht : c → ImpQ n D ((d, .bool true) :: L) (wpQuiet P ops (St W M R) C rest)) (hf : ¬ c → ImpQ n D ((d, .bool false) :: L) (wpQuiet P ops (St W M R) C rest)) : ImpQ n D L (wpQuiet P ops (St W M R) C (o :: rest)) := by
  by_cases hc : c
  · exact q_g _ hg hs hdst hd (v_true ho hc) (ht hc)
  · exact q_g _ hg hs hdst hd (v_false ho hc) (hf hc)
end Go.G

namespace Foot4
open Go Go.G
structure T3 where
  a : Int
  b : Int
  c : Int
  deriving DecidableEq, Inhabited
def T3.at (t : T3) (k : Nat) : Int := if k = 0 then t.a else if k = 1 then t.b else t.c
structure Span where
  lo : Int
  hi : Int
  deriving DecidableEq, Inhabited
structure Heap where
  lo : Int
  hi : Int
  sods : Int
  deriving DecidableEq, Inhabited
structure Work where
  rain : List Span
  men : Int
  lim : T3
  dr : T3
  heaps : List Heap
abbrev i64 (n : Int) : Value := .int .i64 n
def encS (s : Span) : List Value := [i64 s.lo, i64 s.hi]
def doneTo (p : T3) (day : Int) : Nat → Int
  | 0 => 0
  | k + 1 => doneTo p day k + (if 0 ≤ p.at k ∧ p.at k ≤ day then 1 else 0)
def Done (p : T3) (day : Int) : Int := doneTo p day 3
def step (n rain dr : Int) : Int := max 0 (n + rain - dr)
def worstTo (F : Work) (heap : Nat) (p : T3) : Nat → Int
  | 0 => (F.heaps.getD heap default).hi
  | d + 1 => if Done p d < 3 then step (worstTo F heap p d) (F.rain.getD d default).hi (F.dr.at (Done p d).toNat) else worstTo F heap p d
def bestTo (F : Work) (heap : Nat) (p : T3) : Nat → Int
  | 0 => (F.heaps.getD heap default).lo
  | d + 1 => if Done p d < 3 then step (bestTo F heap p d) (F.rain.getD d default).lo (F.dr.at (Done p d).toNat) else bestTo F heap p d
theorem all_step {p : Nat → Prop} {k : Nat} (h : ∀ j, j < k → p j) (hk : p k) : ∀ j, j < k + 1 → p j := fun j hj => by
  by_cases e : j = k
  · subst e; exact hk
  · exact h j (by omega)
def SpanOk (s : Span) (m : Int) : Prop := 0 ≤ s.lo ∧ s.lo ≤ s.hi ∧ s.hi ≤ m
instance (s : Span) (m : Int) : Decidable (SpanOk s m) := by unfold SpanOk; infer_instance
def GoodF (F : Work) : Prop := (1 ≤ (F.rain.length : Int) ∧ (F.rain.length : Int) ≤ 8) ∧ (0 ≤ F.men ∧ F.men ≤ 3) ∧ (F.heaps.length : Int) ≤ 3 ∧ (∀ k, k < F.rain.length → 0 ≤ (F.rain.getD k default).lo ∧ (F.rain.getD k default).lo ≤ (F.rain.getD k default).hi ∧ (F.rain.getD k default).hi ≤ 10) ∧
  (∀ k, k < 3 → (0 ≤ F.lim.at k ∧ F.lim.at k ≤ 60) ∧ (0 ≤ F.dr.at k ∧ F.dr.at k ≤ 10)) ∧
  (∀ k, k < F.heaps.length → (0 ≤ (F.heaps.getD k default).lo ∧ (F.heaps.getD k default).lo ≤ (F.heaps.getD k default).hi ∧ (F.heaps.getD k default).hi ≤ 60) ∧ (0 ≤ (F.heaps.getD k default).sods ∧ (F.heaps.getD k default).sods ≤ 500))
instance (F : Work) : Decidable (GoodF F) := by unfold GoodF; infer_instance
def Ordered (p : T3) (k : Nat) : Prop := p.at k < 0 ∨ k = 0 ∨ (0 ≤ p.at (k - 1) ∧ p.at (k - 1) < p.at k)
instance (p : T3) (k : Nat) : Decidable (Ordered p k) := by unfold Ordered; infer_instance
def Days (n : Nat) (p : T3) : Prop := ∀ k, k < 3 → -1 ≤ p.at k ∧ p.at k ≤ (n : Int) - 1
instance (n : Nat) (p : T3) : Decidable (Days n p) := by unfold Days; infer_instance
def IsPlan (n : Nat) (p : T3) : Prop := Days n p ∧ Ordered p 0 ∧ Ordered p 1 ∧ Ordered p 2
instance (n : Nat) (p : T3) : Decidable (IsPlan n p) := by unfold IsPlan; infer_instance
def cs3 (n a b : Nat) : List T3 := (List.range' (b + 1) (n - (b + 1))).map fun c : Nat => ⟨a, b, c⟩
def bs3 (n a : Nat) : List T3 := (List.range' (a + 1) (n - (a + 1))).flatMap (cs3 n a)
def whole (n : Nat) : List T3 := (List.range n).flatMap (bs3 n)
def wholeA (n a : Nat) : List T3 := (List.range a).flatMap (bs3 n)
def wholeB (n a b : Nat) : List T3 := wholeA n a ++ (List.range' (a + 1) (b - (a + 1))).flatMap (cs3 n a)
def wholeC (n a b c : Nat) : List T3 := wholeB n a b ++ (List.range' (b + 1) (c - (b + 1))).map fun c : Nat => (⟨a, b, c⟩ : T3)
theorem range'_next {s c : Nat} (h : s ≤ c) : List.range' s (c + 1 - s) = List.range' s (c - s) ++ [c] := by
  rw [show c + 1 - s = (c - s) + 1 from by omega, List.range'_1_concat, show s + (c - s) = c from by omega]
theorem wholeC_step {n a b c : Nat} (h : b < c) : wholeC n a b (c + 1) = wholeC n a b c ++ [⟨a, b, c⟩] := by
  unfold wholeC; rw [range'_next (by omega)]; simp
theorem wholeB_step {n a b : Nat} (h : a < b) : wholeC n a b (max n (b + 1)) = wholeB n a (b + 1) := by
  unfold wholeC wholeB; rw [range'_next (by omega)]
  simp only [List.flatMap_append, List.flatMap_cons, List.flatMap_nil, List.append_nil, List.append_assoc]
  congr 2
  unfold cs3
  rw [show max n (b + 1) - (b + 1) = n - (b + 1) from by omega]
theorem wholeA_step {n a : Nat} : wholeB n a (max n (a + 1)) = wholeA n (a + 1) := by
  unfold wholeB wholeA; rw [List.range_succ]
  simp only [List.flatMap_append, List.flatMap_cons, List.flatMap_nil, List.append_nil]
  congr 1
  unfold bs3
  rw [show max n (a + 1) - (a + 1) = n - (a + 1) from by omega]
structure Bnd (F : Work) : Prop where
  rain : ∀ k, 0 ≤ (F.rain.getD k default).lo ∧ (F.rain.getD k default).lo ≤ 10 ∧ 0 ≤ (F.rain.getD k default).hi ∧ (F.rain.getD k default).hi ≤ 10
  dr : ∀ k, 0 ≤ F.dr.at k ∧ F.dr.at k ≤ 10
  len : F.rain.length ≤ 8
  heap : ∀ k, 0 ≤ (F.heaps.getD k default).lo ∧ (F.heaps.getD k default).lo ≤ 60 ∧ 0 ≤ (F.heaps.getD k default).hi ∧ (F.heaps.getD k default).hi ≤ 60
def okStep (F : Work) (wx : Work → Nat → T3 → Nat → Int) (heap : Nat) (p : T3) (k : Nat) : Prop := p.at k < 0 ∨ wx F heap p (p.at k).toNat ≤ F.lim.at k
instance (F : Work) (wx : Work → Nat → T3 → Nat → Int) (heap : Nat) (p : T3) (k : Nat) : Decidable (okStep F wx heap p k) := by unfold okStep; infer_instance
theorem step_bd {n r d B : Int} (h0 : 0 ≤ n) (h1 : n ≤ B) (h2 : 0 ≤ r) (h3 : r ≤ 10) (h4 : 0 ≤ d) : 0 ≤ step n r d ∧ step n r d ≤ B + 10 := by
  unfold step; omega
theorem Bnd.wet {F : Work} (h : Bnd F) (heap d : Nat) (p : T3) : 0 ≤ worstTo F heap p d ∧ worstTo F heap p d ≤ 60 + 10 * d := by
  induction d with
  | zero => have := h.heap heap; simp only [worstTo]; omega
  | succ d ih =>
    simp only [worstTo]
    split
    · have := h.rain d; have := h.dr (Done p d).toNat
      have := step_bd ih.1 ih.2 (by omega : 0 ≤ (F.rain.getD d default).hi) (by omega) (h.dr (Done p d).toNat).1
      omega
    · omega
end Foot4

namespace Sod2
open Go Go.G Foot4
structure Spit where
  sods : Int
  lo : Int
  hi : Int
  deriving DecidableEq, Inhabited
structure LogS where
  day : Int
  lo : Int
  hi : Int
  deriving DecidableEq, Inhabited
structure Bank where
  spits : List Spit
  days : List Span
  logs : List LogS
def GoodS (B : Bank) : Prop := (1 ≤ (B.spits.length : Int) ∧ (B.spits.length : Int) ≤ 3) ∧ (1 ≤ (B.days.length : Int) ∧ (B.days.length : Int) ≤ 6) ∧ (B.logs.length : Int) ≤ 4 ∧
  (∀ k, k < B.spits.length → (1 ≤ (B.spits.getD k default).sods ∧ (B.spits.getD k default).sods ≤ 30) ∧ (1 ≤ (B.spits.getD k default).lo ∧ (B.spits.getD k default).lo ≤ (B.spits.getD k default).hi ∧ (B.spits.getD k default).hi ≤ 6) ∧ (B.spits.getD k default).hi - (B.spits.getD k default).lo ≤ 2) ∧
  (∀ k, k < B.days.length → 0 ≤ (B.days.getD k default).lo ∧ (B.days.getD k default).lo ≤ (B.days.getD k default).hi ∧ (B.days.getD k default).hi ≤ 100) ∧
  (∀ k, k < B.logs.length → (0 ≤ (B.logs.getD k default).day ∧ (B.logs.getD k default).day ≤ (B.days.length : Int) - 1) ∧ (0 ≤ (B.logs.getD k default).lo ∧ (B.logs.getD k default).lo ≤ (B.logs.getD k default).hi ∧ (B.logs.getD k default).hi ≤ 200))
instance (B : Bank) : Decidable (GoodS B) := by unfold GoodS; infer_instance
def cutL (c : T3) : List Spit → Nat → Int → Int
  | [], _, _ => 0
  | p :: ps, i, m => if min p.sods (m / c.at i) < p.sods then min p.sods (m / c.at i) else min p.sods (m / c.at i) + cutL c ps (i + 1) (m - min p.sods (m / c.at i) * c.at i)
def sodsOf (B : Bank) (c : T3) (m : Int) : Int := cutL c B.spits 0 m
def strS (B : Bank) (c : T3) (s : Int) : Nat → Int × Int
  | 0 => (0, s)
  | k + 1 => ((strS B c s k).1 + min (strS B c s k).2 (B.spits.getD k default).sods * c.at k, (strS B c s k).2 - min (strS B c s k).2 (B.spits.getD k default).sods)
def strokes (B : Bank) (c : T3) (s : Int) : Int := if 0 < (strS B c s B.spits.length).2 then 1048576 else (strS B c s B.spits.length).1
def cntTo (B : Bank) (c : T3) (d : Nat) (m : Span) : Nat → Span
  | 0 => m
  | k + 1 => if (B.logs.getD k default).day = d then ⟨max (cntTo B c d m k).lo (strokes B c (B.logs.getD k default).lo), min (cntTo B c d m k).hi (strokes B c ((B.logs.getD k default).hi + 1) - 1)⟩ else cntTo B c d m k
def nowF (B : Bank) (c : T3) : Nat → Span
  | 0 => ⟨0, 0⟩
  | d + 1 => cntTo B c d ⟨(nowF B c d).lo + (B.days.getD d default).lo, (nowF B c d).hi + (B.days.getD d default).hi⟩ B.logs.length
def someTo (B : Bank) (c : T3) (d : Nat) : Prop := ∀ k, k < d → (nowF B c (k + 1)).lo ≤ (nowF B c (k + 1)).hi
instance (B : Bank) (c : T3) (d : Nat) : Decidable (someTo B c d) := by unfold someTo; infer_instance
abbrev canC (B : Bank) (c : T3) : Prop := someTo B c B.days.length
def bk (B : Bank) (c : T3) : Nat → Span
  | 0 => nowF B c B.days.length
  | j + 1 => ⟨max (nowF B c (B.days.length - 1 - j)).lo ((bk B c j).lo - (B.days.getD (B.days.length - 1 - j) default).hi), min (nowF B c (B.days.length - 1 - j)).hi ((bk B c j).hi - (B.days.getD (B.days.length - 1 - j) default).lo)⟩
def lastF (B : Bank) (c : T3) (d : Nat) : Span := bk B c (B.days.length - 1 - d)
def fwdD (B : Bank) (c : T3) (d : Nat) : Nat → Span := fun i => if i < d then nowF B c (i + 1) else ⟨0, 0⟩
def bckD (B : Bank) (c : T3) (d : Nat) : Nat → Span := fun i => if i < B.days.length then (if d ≤ i then lastF B c i else nowF B c (i + 1)) else ⟨0, 0⟩
def upTo (B : Bank) (c : T3) : Nat → Nat
  | 0 => 0
  | d + 1 => if someTo B c d ∧ ¬ (nowF B c (d + 1)).lo ≤ (nowF B c (d + 1)).hi then d else upTo B c d
def logD (B : Bank) (c : T3) : Nat → Span := if canC B c then bckD B c 0 else fwdD B c (upTo B c B.days.length)
def set3 (t : T3) (k : Nat) (x : Int) : T3 := if k = 0 then ⟨x, t.b, t.c⟩ else if k = 1 then ⟨t.a, x, t.c⟩ else ⟨t.a, t.b, x⟩
def costsL : List Spit → Nat → T3 → List T3
  | [], _, c => [c]
  | p :: ps, i, c => (List.range (p.hi - p.lo + 1).toNat).flatMap fun j : Nat => costsL ps (i + 1) (set3 c i (p.lo + j))
def allC (B : Bank) : List T3 := costsL B.spits 0 ⟨0, 0, 0⟩
def canS (B : Bank) : Prop := ∃ c ∈ allC B, canC B c
instance (B : Bank) : Decidable (canS B) := by unfold canS; infer_instance
end Sod2

namespace Sod2
open Go Go.G Foot4
def encI (x : Int) : List Value := [i64 x]
theorem encI_len (x : Int) : (encI x).length = 1 := rfl
structure MinMul (s m x : Int) : Prop where
  lo : 0 ≤ min s (m / x) * x
  hi : min s (m / x) * x ≤ m
theorem MinMul.bd {s m x : Int} (h : MinMul s m x) (hm : m ≤ 1000000) : -9223372036854775808 ≤ min s (m / x) * x ∧ min s (m / x) * x ≤ 9223372036854775807 := by
  have := h.lo
  have := h.hi
  omega
end Sod2

namespace Sod2
open Go Go.G Foot4
def comS (x y : Span) : Span := ⟨max x.lo y.lo, min x.hi y.hi⟩
def one (B : Bank) (c : T3) (l : LogS) (m : Span) : Span := comS m ⟨strokes B c l.lo, strokes B c (l.hi + 1) - 1⟩
end Sod2

namespace Go.G
variable {P : Program} {W : World} {n : Nat} {D : List Deferred} {L : Tm} {M : List Res} {R : List Fact} {Q : Exit → Act → World → Prop} {o : Oper}
def maskOf (acc : List Nat) (o : Oper) : Nat := o.after.toList.foldr (fun e s => if Region.binds .any e then s ||| 2 ^ e.on ||| acc.getD e.on 0 else s) 0
def masks : List Oper → List Nat → List Nat
  | [], acc => acc
  | o :: r, acc => masks r (acc ++ [maskOf acc o])
def Closed (ops : Array Oper) (listed : Array Bool) : Prop := ∀ j o, ops[j]? = some o → listed.getD j false = true → ∀ e ∈ o.after, Region.binds .any e = true → listed.getD e.on false = true
theorem maskOf_bit {acc : List Nat} {o : Oper} {j : Nat} (h : (maskOf acc o).testBit j = true) : ∃ e ∈ o.after, Region.binds .any e = true ∧ (e.on = j ∨ (acc.getD e.on 0).testBit j = true) := by
  unfold maskOf at h
  have key : ∀ l : List Edge, (l.foldr (fun e s => if Region.binds .any e then s ||| 2 ^ e.on ||| acc.getD e.on 0 else s) 0).testBit j = true → ∃ e ∈ l, Region.binds .any e = true ∧ (e.on = j ∨ (acc.getD e.on 0).testBit j = true) := by
    intro l
    induction l with
    | nil => intro h; simp at h
    | cons e l ih =>
      intro h
      simp only [List.foldr_cons] at h
      split at h
      · rename_i hb
        rw [Nat.testBit_or, Nat.testBit_or, Nat.testBit_two_pow] at h
        simp only [Bool.or_eq_true, decide_eq_true_eq] at h
        rcases h with (h | h) | h
        · obtain ⟨e', he', r⟩ := ih h; exact ⟨e', by simp [he'], r⟩
        · exact ⟨e, by simp, hb, .inl h⟩
        · exact ⟨e, by simp, hb, .inr h⟩
      · obtain ⟨e', he', r⟩ := ih h; exact ⟨e', by simp [he'], r⟩
  obtain ⟨e, he, r⟩ := key _ h
  exact ⟨e, by simpa using he, r⟩
theorem masks_keep : ∀ (l : List Oper) (acc : List Nat) (i : Nat), i < acc.length → (masks l acc).getD i 0 = acc.getD i 0
  | [], acc, i, _ => rfl
  | o :: r, acc, i, h => by
    simp only [masks]
    rw [masks_keep r _ i (by simp; omega)]
    simp [List.getD, List.getElem?_append_left h]
theorem masks_sound {ops : Array Oper} {listed : Array Bool} (hc : Closed ops listed) : ∀ (l : List Oper) (acc : List Nat), (∀ j, l[j]? = ops[acc.length + j]?) →
    (∀ i, i < acc.length → ∀ j, (acc.getD i 0).testBit j = true → listed.getD i false = true → listed.getD j false = true) →
    (∀ t o, acc.length ≤ t → ops[t]? = some o → (∀ e ∈ o.after, Region.binds .any e = true → listed.getD e.on false = true) → ∀ j, ((masks l acc).getD t 0).testBit j = true → listed.getD j false = true) ∧
    (∀ i, i < acc.length + l.length → ∀ j, ((masks l acc).getD i 0).testBit j = true → listed.getD i false = true → listed.getD j false = true)
  | [], acc, hl, ha => by
    refine ⟨?_, by simpa [masks] using ha⟩
    intro t o ht ho
    have := hl (t - acc.length)
    rw [show acc.length + (t - acc.length) = t from by omega, ho] at this
    simp at this
  | o :: r, acc, hl, ha => by
    have ho : ops[acc.length]? = some o := by simpa using (hl 0).symm
    have hbits : ∀ j, (maskOf acc o).testBit j = true → (∀ e ∈ o.after, Region.binds .any e = true → listed.getD e.on false = true) → listed.getD j false = true := by
      intro j hj hp
      obtain ⟨e, he, hb, h | h⟩ := maskOf_bit hj
      · rw [← h]; exact hp e he hb
      · refine ha e.on ?_ j h (hp e he hb)
        rcases Nat.lt_or_ge e.on acc.length with h' | h'
        · exact h'
        · simp [List.getD, List.getElem?_eq_none h'] at h
    have ih := masks_sound hc r (acc ++ [maskOf acc o]) (fun j => by have := hl (j + 1); simpa [Nat.add_assoc, Nat.add_comm 1 j] using this) (by
      intro i hi j hj hli
      simp only [List.length_append, List.length_cons, List.length_nil] at hi
      rcases Nat.lt_or_ge i acc.length with h' | h'
      · rw [show (acc ++ [maskOf acc o]).getD i 0 = acc.getD i 0 from by simp [List.getD, List.getElem?_append_left h']] at hj
        exact ha i h' j hj hli
      · obtain rfl : i = acc.length := by omega
        rw [show (acc ++ [maskOf acc o]).getD acc.length 0 = maskOf acc o from by simp [List.getD]] at hj
        exact hbits j hj (hc acc.length o ho hli))
    refine ⟨?_, ?_⟩
    · intro t o' ht ho' hp j hj
      rcases Nat.lt_or_ge acc.length t with h' | h'
      · exact ih.1 t o' (by simp; omega) ho' hp j hj
      · obtain rfl : t = acc.length := by omega
        rw [ho] at ho'; cases ho'
        simp only [masks] at hj
        rw [masks_keep r _ _ (by simp)] at hj
        rw [show (acc ++ [maskOf acc o]).getD acc.length 0 = maskOf acc o from by simp [List.getD]] at hj
        exact hbits j hj hp
    · intro i hi j hj hli
      exact ih.2 i (by simp at hi ⊢; omega) j hj hli
def tmpsOf (o : Oper) : List Nat := o.op.operands.toList.filterMap fun | .tmp t => some t | _ => none
def depOn (o : Oper) (j : Nat) : Bool := o.after.any fun e => Region.binds .any e && e.on == j
def depD (ops : Array Oper) (o : Oper) (j : Nat) : Bool := depOn o j && (match ops[j]? with | some p => p.dst.isSome | none => false)
def freeB (free : List Oper) : Bool :=
  free.all fun o =>
    ((List.range free.length).all fun j => match free[j]? with
      | some p => !((tmpsOf o).contains (p.dst.getD 1000000)) || depOn o j
      | none => true) &&
    (match o.guard with | some (g, _) => depOn o g && Nat.blt g free.length && (match free[g]? with | some p => p.dst.isSome | none => false) | none => true)
def nodupB : List Nat → Bool
  | [] => true
  | x :: r => !r.contains x && nodupB r
def injB (free : List Oper) : Bool := nodupB (free.filterMap (·.dst)) && !(free.filterMap (·.dst)).contains 1000000
def backB (l : List Oper) : Bool := (List.range l.length).all fun i => match l[i]? with
  | some o => o.after.all fun e => !Region.binds .any e || Nat.blt e.on i
  | none => true
def tailB (ms : List Nat) (m N : Nat) : Bool := (List.range N).all fun t => Nat.blt t m || (List.range t).all fun j => (ms.getD t 0).testBit j
def parB (free tail : List Oper) : Bool :=
  Region.noSelect (free ++ tail).toArray && freeB free && injB free && backB (free ++ tail) && tailB (masks (free ++ tail) []) free.length (free ++ tail).length
theorem nodupB_sound : ∀ {l : List Nat}, nodupB l = true → l.Nodup
  | [], _ => List.nodup_nil
  | x :: r, h => by
    simp only [nodupB, Bool.and_eq_true, Bool.not_eq_true', List.contains_eq_mem, decide_eq_false_iff_not] at h
    exact List.nodup_cons.2 ⟨h.1, nodupB_sound h.2⟩
structure Spc where
  det : Option Value
  pval : Value → Prop
  res : Value → List Res
  fct : Value → List Fact
  pre : List Res
  /-- A later operation changes its resources. -/
  late : Option (Nat × (Value → List Res)) := none
  /-- It changes those of another one. -/
  of : Option Nat := none
  /-- It panics. -/
  ab : Option (List PanicEntry) := none
def Spc.q (v : Value) : Spc := ⟨some v, fun _ => True, fun _ => [], fun _ => [], [], none, none, none⟩
def Spc.g (pval : Value → Prop) (res : Value → List Res) (fct : Value → List Fact) : Spc := ⟨none, pval, res, fct, [], none, none, none⟩
def Spc.qc (v : Value) (pre post : List Res) : Spc := ⟨some v, fun _ => True, fun _ => post, fun _ => [], pre, none, none, none⟩
def Spc.c (pval : Value → Prop) (res : Value → List Res) (fct : Value → List Fact) (pre : List Res) : Spc := ⟨none, pval, res, fct, pre, none, none, none⟩
def Spc.u : Spc := ⟨none, fun _ => True, fun _ => [], fun _ => [], [], none, none, none⟩
def Spc.s5 (det : Option Value) (pval : Value → Prop) (j : Nat) (ab : Option (List PanicEntry)) (fct : Value → List Fact := fun _ => []) : Spc := ⟨det, pval, fun _ => [], fct, [], none, some j, ab⟩
def Spc.c5 (det : Option Value) (pval : Value → Prop) (pre post : List Res) (ab : Option (List PanicEntry)) (fct : Value → List Fact := fun _ => []) : Spc := ⟨det, pval, fun _ => post, fct, pre, none, none, ab⟩
def Spc.s6 (det : Option Value) (pval : Value → Prop) (res : Value → List Res) (j : Nat) : Spc := ⟨det, pval, res, fun _ => [], [], none, some j, none⟩
def Spc.c6 (det : Option Value) (pval : Value → Prop) (pre : List Res) (post : Value → List Res) : Spc := ⟨det, pval, post, fun _ => [], pre, none, none, none⟩
def Spc.s (j : Nat) : Spc := Spc.s5 none (fun _ => True) j none
def Spc.val (s : Spc) (u : Value) : Prop := match s.det with | some v => u = v | none => s.pval u
def Spc.rs (s : Spc) (u : Value) : List Res := s.res u
def Spc.rsL (s : Spc) (l : Array Bool) (u : Value) : List Res := match s.late with
  | some (k, r) => if l.getD k false then r u else s.res u
  | none => s.res u
def Spc.last (s : Spc) (u : Value) : List Res := match s.late with
  | some (_, r) => r u
  | none => s.res u
def Spc.fs (s : Spc) (u : Value) : List Fact := s.fct u
def upG (P : Program) (w : World) (C : Value → World → Prop) (Cp : List PanicEntry → World → Prop) : Result Go.Next → Prop
  | .ok (.value v) w' => C v w'
  | .ok .skip w' => C undef w'
  | .ok (.enter f args) w' => w' = w ∧ Calls P f args w fun e w'' => (∃ v, e = .returned v ∧ C v w'') ∨ ∃ c, e = .panicked c ∧ Cp c w''
  | _ => False
def OpG (P : Program) (W : World) (n : Nat) (L : Tm) (M : List Res) (R : List Fact) (o : Oper) (s : Spc) : Prop :=
  ∀ Mx Rx a w, FSat n L a → St W (Mx ++ (s.pre ++ M)) (Rx ++ R) w → upG P w (fun v w' => s.val v ∧ St W (s.rs v ++ (Mx ++ M)) (s.fs v ++ (Rx ++ R)) w') (fun c w' => s.ab = some c ∧ ∃ Y, St W (Y ++ (Mx ++ M)) (Rx ++ R) w') ((execOp a.eval o).run P w)
theorem OpG.of_q {v : Value} (h : ∀ Mx Rx, OpQ P W n L (Mx ++ M) (Rx ++ R) o v) : OpG P W n L M R o (Spc.q v) := by
  intro Mx Rx a w h1 h2
  have h2 : St W (Mx ++ M) (Rx ++ R) w := h2
  have := h Mx Rx a w h1 h2
  unfold Oper.quietAt at this
  generalize hr : (execOp a.eval o).run P w = r at this
  cases r with
  | ok x w' =>
    cases x <;> simp only [Oper.quietUpon] at this
    · obtain ⟨rfl, rfl⟩ := this
      exact ⟨rfl, h2⟩
    · obtain ⟨rfl, rfl⟩ := this
      exact ⟨rfl, h2⟩
    · obtain ⟨rfl, hc⟩ := this
      exact ⟨rfl, hc.mono fun e w'' ⟨he, hs⟩ => .inl ⟨v, he, rfl, hs⟩⟩
  | halt h w' => exact this.elim
def addL (o : Oper) (s : Spc) (L : Tm) : Tm := match s.det with | some v => (o.dst.getD 1000000, v) :: L | none => L
def ParO (P : Program) (W : World) (n : Nat) (M : List Res) (R : List Fact) (ops : Array Oper) (K : List Spc → Prop) : List Oper → List Spc → Tm → Prop
  | [], acc, _ => K acc
  | o :: rest, acc, L => ∃ s : Spc, (match o.dst with | some d => Nat.blt d n | none => s.det.isNone) = true ∧
      ((s.of = none ∧ (((o.guard = none ∨ ∃ j b, o.guard = some (j, b) ∧ said ops L j = some b) ∧ OpG P W n L M R o s) ∨ (∃ j b, o.guard = some (j, b) ∧ saidNo ops L j b = true ∧ s = Spc.q undef) ∨
        (o.guard = none ∧ ∃ j oj sj, ops[j]? = some oj ∧ acc[j]? = some sj ∧ sj.det = none ∧ depD ops o j = true ∧ ∀ u, sj.pval u → OpG P W n ((oj.dst.getD 1000000, u) :: L) M (sj.fct u ++ R) o s) ∨
        (o.guard = none ∧ s = Spc.u ∧ ∃ j oj sj, ops[j]? = some oj ∧ acc[j]? = some sj ∧ sj.det = none ∧ sj.late = none ∧ depD ops o j = true ∧ ∀ u, sj.pval u → OpG P W n ((oj.dst.getD 1000000, u) :: L) M (sj.fct u ++ R) o (Spc.qc undef (sj.res u) (sj.res u))))) ∨
        (o.guard = none ∧ ∃ j oj sj r det pval ab fct, s = Spc.s5 det pval j ab fct ∧ ops[j]? = some oj ∧ acc[j]? = some sj ∧ sj.det = none ∧ sj.late = some (acc.length, r) ∧ depD ops o j = true ∧ ∀ u, sj.pval u → OpG P W n ((oj.dst.getD 1000000, u) :: L) M (sj.fct u ++ R) o (Spc.c5 det pval (sj.res u) (r u) ab fct)) ∨
        (o.guard = none ∧ ∃ j oj sj r det pval res q oq sq, s = Spc.s6 det pval res j ∧ ops[j]? = some oj ∧ acc[j]? = some sj ∧ sj.det = none ∧ sj.late = some (acc.length, r) ∧ depD ops o j = true ∧ ops[q]? = some oq ∧ acc[q]? = some sq ∧ sq.det = none ∧ depD ops o q = true ∧ ∀ u, sj.pval u → ∀ t, sq.pval t → OpG P W n ((oq.dst.getD 1000000, t) :: (oj.dst.getD 1000000, u) :: L) M (sq.fct t ++ (sj.fct u ++ R)) o (Spc.c6 det pval (sj.res u) (fun v => res v ++ r u)))) ∧
      ParO P W n M R ops K rest (acc ++ [s]) (addL o s L)
def detL : List Oper → List Spc → Tm → Tm
  | o :: os, s :: ss, L => detL os ss (addL o s L)
  | _, _, L => L
def Fin (W : World) (n : Nat) (D : List Deferred) (X : Act → World → Prop) : List Oper → List Spc → Tm → List Res → List Fact → Prop
  | o :: os, s :: ss, L, M, R => match s.det with
    | some v => Fin W n D X os ss (putL o.dst v L) (s.last v ++ M) (s.fct v ++ R)
    | none => ∀ v, s.pval v → Fin W n D X os ss (putL o.dst v L) (s.last v ++ M) (s.fct v ++ R)
  | _, _, L, M, R => Imp W n D L M R X
structure Step1 (P : Program) (W : World) (n : Nat) (M : List Res) (R : List Fact) (ops : Array Oper) (all : List Spc) (i : Nat) (o : Oper) (s : Spc) (L : Tm) : Prop where
  lt : (match o.dst with | some d => Nat.blt d n | none => s.det.isNone) = true
  run : (s.of = none ∧ (((o.guard = none ∨ ∃ j b, o.guard = some (j, b) ∧ said ops L j = some b) ∧ OpG P W n L M R o s) ∨ (∃ j b, o.guard = some (j, b) ∧ saidNo ops L j b = true ∧ s = Spc.q undef) ∨
    (o.guard = none ∧ ∃ j oj sj, ops[j]? = some oj ∧ all[j]? = some sj ∧ sj.det = none ∧ depD ops o j = true ∧ ∀ u, sj.pval u → OpG P W n ((oj.dst.getD 1000000, u) :: L) M (sj.fct u ++ R) o s) ∨
        (o.guard = none ∧ s = Spc.u ∧ ∃ j oj sj, ops[j]? = some oj ∧ all[j]? = some sj ∧ sj.det = none ∧ sj.late = none ∧ depD ops o j = true ∧ ∀ u, sj.pval u → OpG P W n ((oj.dst.getD 1000000, u) :: L) M (sj.fct u ++ R) o (Spc.qc undef (sj.res u) (sj.res u))))) ∨
        (o.guard = none ∧ ∃ j oj sj r det pval ab fct, s = Spc.s5 det pval j ab fct ∧ ops[j]? = some oj ∧ all[j]? = some sj ∧ sj.det = none ∧ sj.late = some (i, r) ∧ depD ops o j = true ∧ ∀ u, sj.pval u → OpG P W n ((oj.dst.getD 1000000, u) :: L) M (sj.fct u ++ R) o (Spc.c5 det pval (sj.res u) (r u) ab fct)) ∨
        (o.guard = none ∧ ∃ j oj sj r det pval res q oq sq, s = Spc.s6 det pval res j ∧ ops[j]? = some oj ∧ all[j]? = some sj ∧ sj.det = none ∧ sj.late = some (i, r) ∧ depD ops o j = true ∧ ops[q]? = some oq ∧ all[q]? = some sq ∧ sq.det = none ∧ depD ops o q = true ∧ ∀ u, sj.pval u → ∀ t, sq.pval t → OpG P W n ((oq.dst.getD 1000000, t) :: (oj.dst.getD 1000000, u) :: L) M (sq.fct t ++ (sj.fct u ++ R)) o (Spc.c6 det pval (sj.res u) (fun v => res v ++ r u)))
theorem ParO.out {ops : Array Oper} {K : List Spc → Prop} : ∀ (free : List Oper) (acc : List Spc) (L : Tm), ParO P W n M R ops K free acc L →
    ∃ ss : List Spc, ss.length = free.length ∧ K (acc ++ ss) ∧ ∀ i o s, free[i]? = some o → ss[i]? = some s → Step1 P W n M R ops (acc ++ ss) (acc.length + i) o s (detL (free.take i) (ss.take i) L)
  | [], acc, L, h => ⟨[], rfl, by simpa [ParO] using h, fun i o s h1 => by simp at h1⟩
  | o :: rest, acc, L, h => by
    obtain ⟨s, h1, h2, h3⟩ := h
    obtain ⟨ss, hl, hK, hs⟩ := ParO.out rest (acc ++ [s]) (addL o s L) h3
    refine ⟨s :: ss, by simp [hl], by simpa using hK, ?_⟩
    intro i o' s' ho' hs'
    cases i with
    | zero =>
      simp only [List.getElem?_cons_zero, Option.some.injEq] at ho' hs'
      subst ho' hs'
      refine ⟨h1, ?_⟩
      rcases h2 with ⟨hof, h2 | h2 | ⟨hg, j, oj, sj, e1, e2, e3⟩ | ⟨hg, hs, j, oj, sj, e1, e2, e3⟩⟩ | ⟨hg, j, oj, sj, r, det, pval, ab, fct, hs, e1, e2, e3⟩ | ⟨hg, j, oj, sj, r, det, pval, res, q, oq, sq, hs, e1, e2, e3, e4, e5, e6, e7, e8⟩
      · exact .inl ⟨hof, .inl h2⟩
      · exact .inl ⟨hof, .inr (.inl h2)⟩
      · refine .inl ⟨hof, .inr (.inr (.inl ⟨hg, j, oj, sj, e1, ?_, e3⟩))⟩
        rw [List.getElem?_append_left (List.getElem?_eq_some_iff.1 e2).1]; exact e2
      · refine .inl ⟨hof, .inr (.inr (.inr ⟨hg, hs, j, oj, sj, e1, ?_, e3⟩))⟩
        rw [List.getElem?_append_left (List.getElem?_eq_some_iff.1 e2).1]; exact e2
      · refine .inr (.inl ⟨hg, j, oj, sj, r, det, pval, ab, fct, hs, e1, ?_, e3⟩)
        rw [List.getElem?_append_left (List.getElem?_eq_some_iff.1 e2).1]; exact e2
      · refine .inr (.inr ⟨hg, j, oj, sj, r, det, pval, res, q, oq, sq, hs, e1, ?_, e3, e4, e5, e6, ?_, e8⟩)
        · rw [List.getElem?_append_left (List.getElem?_eq_some_iff.1 e2).1]; exact e2
        · rw [List.getElem?_append_left (List.getElem?_eq_some_iff.1 e7).1]; exact e7
    | succ i =>
      simp only [List.getElem?_cons_succ] at ho' hs'
      have := hs i o' s' ho' hs'
      rw [List.append_assoc, List.length_append, List.length_singleton, Nat.add_assoc, Nat.add_comm 1 i] at this
      exact this
def LateOK (ops : Array Oper) (ss : List Spc) : Prop := ∀ j sj k r, ss[j]? = some sj → sj.late = some (k, r) → k < ss.length ∧ (∃ sk, ss[k]? = some sk ∧ sk.of = some j) ∧ ∃ ok, ops[k]? = some ok ∧ depOn ok j = true
def lateB (ops : Array Oper) (all : List Spc) : Nat → List Spc → Bool
  | _, [] => true
  | j, s :: r => (match s.late with
    | none => true
    | some (k, _) => Nat.blt k all.length && (match all[k]? with | some sk => (match sk.of with | some j' => Nat.beq j' j | none => false) | none => false) && (match ops[k]? with | some ok => depOn ok j | none => false)) && lateB ops all (j + 1) r
theorem lateB_sound {ops : Array Oper} {all : List Spc} : ∀ (r : List Spc) (j0 : Nat), lateB ops all j0 r = true → ∀ j sj k q, r[j]? = some sj → sj.late = some (k, q) → k < all.length ∧ (∃ sk, all[k]? = some sk ∧ sk.of = some (j0 + j)) ∧ ∃ ok, ops[k]? = some ok ∧ depOn ok (j0 + j) = true
  | [], _, _, j, _, _, _, h, _ => by simp at h
  | s :: r, j0, h, j, sj, k, q, hj, hl => by
    simp only [lateB, Bool.and_eq_true] at h
    cases j with
    | zero =>
      simp only [List.getElem?_cons_zero, Option.some.injEq] at hj
      subst hj
      rw [hl] at h
      simp only [Bool.and_eq_true] at h
      obtain ⟨⟨⟨h1, h2⟩, h3⟩, _⟩ := h
      refine ⟨by simpa using h1, ?_, ?_⟩
      · cases hk : all[k]? with
        | none => rw [hk] at h2; simp at h2
        | some sk =>
          rw [hk] at h2
          cases ho : sk.of with
          | none => simp [ho] at h2
          | some j' =>
            simp only [ho] at h2
            have : j' = j0 := Nat.eq_of_beq_eq_true h2
            exact ⟨sk, rfl, by rw [ho, this]; rfl⟩
      · cases hk : ops[k]? with
        | none => rw [hk] at h3; simp at h3
        | some ok => rw [hk] at h3; exact ⟨ok, rfl, h3⟩
    | succ j =>
      have := lateB_sound r (j0 + 1) h.2 j sj k q (by simpa using hj) hl
      rw [show j0 + 1 + j = j0 + (j + 1) from by omega] at this
      exact this
theorem lateOK_of {ops : Array Oper} {ss : List Spc} (h : lateB ops ss 0 ss = true) : LateOK ops ss := fun j sj k r hj hl => by
  have := lateB_sound ss 0 h j sj k r hj hl
  rw [Nat.zero_add] at this
  exact this
def resOf (ss : List Spc) (listed : Array Bool) (g : Nat → Value) (m : Nat) : List Res := (List.range m).flatMap fun i => if listed.getD i false then (match ss[i]? with | some s => s.rsL listed (g i) | none => []) else (match ss[i]? with | some s => s.pre | none => [])
def restOf (ss : List Spc) (listed : Array Bool) (g : Nat → Value) (m i : Nat) : List Res := (List.range m).flatMap fun j => if j = i then [] else if listed.getD j false then (match ss[j]? with | some s => s.rsL listed (g j) | none => []) else (match ss[j]? with | some s => s.pre | none => [])
def lastOf (ss : List Spc) (g : Nat → Value) (m : Nat) : List Res := (List.range m).flatMap fun i => match ss[i]? with | some s => s.last (g i) | none => []
def preOf (ss : List Spc) : List Res := ss.flatMap Spc.pre
def fctOf (ss : List Spc) (listed : Array Bool) (g : Nat → Value) (m : Nat) : List Fact := (List.range m).flatMap fun i => if listed.getD i false then (match ss[i]? with | some s => s.fs (g i) | none => []) else []
theorem flatMap_same {α : Type} (f f' : Nat → List α) : ∀ (l : List Nat), (∀ j ∈ l, f' j = f j) → l.flatMap f' = l.flatMap f
  | [], _ => rfl
  | x :: r, h => by simp only [List.flatMap_cons]; rw [h x (by simp), flatMap_same f f' r (fun j hj => h j (by simp [hj]))]
theorem flatMap_upd {α : Type} (f f' : Nat → List α) (i m : Nat) (hi : i < m) (x : List α) (h0 : f i = []) (h1 : f' i = x) (h2 : ∀ j, j ≠ i → f' j = f j) : ((List.range m).flatMap f').Perm (x ++ (List.range m).flatMap f) := by
  induction m with
  | zero => omega
  | succ m ih =>
    rw [List.range_succ, List.flatMap_append, List.flatMap_append]
    simp only [List.flatMap_cons, List.flatMap_nil, List.append_nil]
    by_cases e : i = m
    · subst e
      have : (List.range i).flatMap f' = (List.range i).flatMap f := by
        refine flatMap_same _ _ _ fun j hj => ?_
        exact h2 j (by have := List.mem_range.1 hj; omega)
      rw [this, h0, h1, List.append_nil]
      exact List.perm_append_comm
    · have := ih (by omega)
      rw [h2 m (by omega)]
      rw [← List.append_assoc]
      exact this.append_right _
structure J (W : World) (n : Nat) (D : List Deferred) (L : Tm) (M : List Res) (R : List Fact) (ops : Array Oper) (free : List Oper) (ss : List Spc) (listed : Array Bool) (a : Act) (w : World) : Prop where
  size : listed.size = ops.size
  closed : Closed ops listed
  late : ∀ t, free.length ≤ t → t < ops.size → listed.getD t true = false
  frame : FSat n L a
  defers : a.defers = D
  vals : ∃ g : Nat → Value, (∀ i o s, free[i]? = some o → ss[i]? = some s → listed.getD i false = true → s.val (g i) ∧ (∀ d, o.dst = some d → a.tmps[d]? = some (g i))) ∧ St W (resOf ss listed g free.length ++ M) (fctOf ss listed g free.length ++ R) w
def Inj (free : List Oper) : Prop := ∀ (i j : Nat) (p q : Oper), free[i]? = some p → free[j]? = some q → p.dst.isSome = true → p.dst.getD 1000000 = q.dst.getD 1000000 → i = j
theorem Inj.take {free : List Oper} (h : Inj free) (i : Nat) : Inj (free.take i) := fun a b p q h1 h2 => by
  have e1 : free[a]? = some p := by
    rw [List.getElem?_take] at h1
    split at h1
    · exact h1
    · cases h1
  have e2 : free[b]? = some q := by
    rw [List.getElem?_take] at h2
    split at h2
    · exact h2
    · cases h2
  exact h a b p q e1 e2
theorem Inj.tail {o : Oper} {os : List Oper} (h : Inj (o :: os)) : Inj os := fun a b p q h1 h2 h3 h4 => by
  have := h (a + 1) (b + 1) p q (by simpa using h1) (by simpa using h2) h3 h4
  omega
theorem Inj.head {o o' : Oper} {os : List Oper} {j : Nat} (h : Inj (o :: os)) (hs : o.dst.isSome = true) (hj : os[j]? = some o') (he : o'.dst.getD 1000000 = o.dst.getD 1000000) : False := by
  have := h 0 (j + 1) o o' rfl (by simpa using hj) hs he.symm
  omega
theorem inj_list : ∀ {l : List Oper}, (l.filterMap (·.dst)).Nodup → ∀ (i j : Nat) (p q : Oper) (d : Nat), l[i]? = some p → l[j]? = some q → p.dst = some d → q.dst = some d → i = j
  | [], _, i, j, p, q, d, h1, _, _, _ => by simp at h1
  | o :: r, hn, i, j, p, q, d, h1, h2, h3, h4 => by
    have hr : (r.filterMap (·.dst)).Nodup := by
      rw [List.filterMap_cons] at hn
      split at hn
      · exact hn
      · exact (List.nodup_cons.1 hn).2
    have hd : ∀ (k : Nat) (x : Oper), o.dst = some d → r[k]? = some x → x.dst = some d → False := fun k x e1 e2 e3 => by
      rw [List.filterMap_cons_some e1] at hn
      exact (List.nodup_cons.1 hn).1 (List.mem_filterMap.2 ⟨x, List.mem_of_getElem? e2, e3⟩)
    cases i with
    | zero =>
      simp only [List.getElem?_cons_zero, Option.some.injEq] at h1
      subst h1
      cases j with
      | zero => rfl
      | succ j => exact (hd j q h3 (by simpa using h2) h4).elim
    | succ i =>
      cases j with
      | zero =>
        simp only [List.getElem?_cons_zero, Option.some.injEq] at h2
        subst h2
        exact (hd i p h4 (by simpa using h1) h3).elim
      | succ j => rw [inj_list hr i j p q d (by simpa using h1) (by simpa using h2) h3 h4]
theorem injB_sound {free : List Oper} (h : injB free = true) : Inj free := by
  simp only [injB, Bool.and_eq_true, Bool.not_eq_true', List.contains_eq_mem, decide_eq_false_iff_not] at h
  intro i j p q h1 h2 h3 h4
  obtain ⟨d, hd⟩ := Option.isSome_iff_exists.1 h3
  rw [hd] at h4
  cases hq : q.dst with
  | none =>
    rw [hq] at h4
    have h5 : d = 1000000 := h4
    subst h5
    exact absurd (List.mem_filterMap.2 ⟨p, List.mem_of_getElem? h1, hd⟩) h.2
  | some d' =>
    rw [hq] at h4
    have h5 : d = d' := h4
    subst h5
    exact inj_list (nodupB_sound h.1) i j p q d h1 h2 hd hq
theorem mk_frame : ∀ (free : List Oper) (ss : List Spc) {L : Tm} {a : Act}, FSat n L a → (∀ (i : Nat) (o : Oper) (s : Spc), free[i]? = some o → ss[i]? = some s → (match o.dst with | some d => Nat.blt d n | none => s.det.isNone) = true) → Inj free →
    ∃ a', FSat n (detL free ss L) a' ∧ (∀ t, (∀ (j : Nat) (o : Oper) (s : Spc) (v : Value), free[j]? = some o → ss[j]? = some s → s.det = some v → o.dst.getD 1000000 ≠ t) → a'.tmps[t]? = a.tmps[t]?) ∧
      (∀ (j : Nat) (o : Oper) (s : Spc) (v : Value), free[j]? = some o → ss[j]? = some s → s.det = some v → a'.tmps[o.dst.getD 1000000]? = some v)
  | [], ss, L, a, h, _, _ => ⟨a, by cases ss <;> exact h, fun _ _ => rfl, fun j o s v h1 => by simp at h1⟩
  | o :: os, [], L, a, h, _, _ => ⟨a, h, fun _ _ => rfl, fun j o s v _ h1 => by simp at h1⟩
  | o :: os, s :: ss, L, a, h, hlt, hnd => by
    have hlt0 := hlt 0 o s rfl rfl
    have hltS := fun i o' s' (e1 : os[i]? = some o') (e2 : ss[i]? = some s') => hlt (i + 1) o' s' (by simpa using e1) (by simpa using e2)
    cases hd : s.det with
    | none =>
      have hadd : addL o s L = L := by simp [addL, hd]
      obtain ⟨a', h1, h2, h3⟩ := mk_frame os ss (L := L) (a := a) h hltS hnd.tail
      refine ⟨a', by simpa [detL, hadd] using h1, fun t ht => h2 t (fun j o' s' v e1 e2 e3 => ht (j + 1) o' s' v (by simpa using e1) (by simpa using e2) e3), ?_⟩
      intro j o' s' v e1 e2 e3
      cases j with
      | zero => simp only [List.getElem?_cons_zero, Option.some.injEq] at e1 e2; subst e1 e2; rw [hd] at e3; cases e3
      | succ j => exact h3 j o' s' v (by simpa using e1) (by simpa using e2) e3
    | some v0 =>
      have hsome : o.dst.isSome = true := by
        cases hod : o.dst with
        | none => rw [hod, hd] at hlt0; simp at hlt0
        | some d => rfl
      have hlt0 : Nat.blt (o.dst.getD 1000000) n = true := by
        cases hod : o.dst with
        | none => rw [hod, hd] at hlt0; simp at hlt0
        | some d => rw [hod] at hlt0; simpa using hlt0
      have hadd : addL o s L = (o.dst.getD 1000000, v0) :: L := by simp [addL, hd]
      obtain ⟨a', h1, h2, h3⟩ := mk_frame os ss (L := (o.dst.getD 1000000, v0) :: L) (a := a.put (some (o.dst.getD 1000000)) v0) (h.put (by simpa using hlt0) v0) hltS hnd.tail
      have hput : ∀ t, o.dst.getD 1000000 ≠ t → (a.put (some (o.dst.getD 1000000)) v0).tmps[t]? = a.tmps[t]? := fun t ht => by
        simp only [Act.put]; rw [Array.getElem?_setIfInBounds_ne ht]
      refine ⟨a', by simpa [detL, hadd] using h1, fun t ht => ?_, ?_⟩
      · rw [h2 t (fun j o' s' v e1 e2 e3 => ht (j + 1) o' s' v (by simpa using e1) (by simpa using e2) e3)]
        exact hput t (ht 0 o s v0 rfl rfl hd)
      · intro j o' s' v e1 e2 e3
        cases j with
        | zero =>
          simp only [List.getElem?_cons_zero, Option.some.injEq] at e1 e2
          subst e1 e2
          rw [hd] at e3; cases e3
          rw [h2 _ (fun j o' s' v e1 e2 e3 e => hnd.head hsome e1 e)]
          have := h.size
          have hlt1 : o.dst.getD 1000000 < n := by simpa using hlt0
          simp [Act.put, this, hlt1]
        | succ j => exact h3 j o' s' v (by simpa using e1) (by simpa using e2) e3
theorem getD_both {listed : Array Bool} {i : Nat} (h : listed.getD i true = false) : listed.getD i false = false := by
  rcases Nat.lt_or_ge i listed.size with h' | h'
  · simp [h'] at h ⊢; exact h
  · simp [Array.getElem?_eq_none h'] at h
theorem wpAny_tail {ops : Array Oper} (hb : backB ops.toList = true) : ∀ (k t fuel : Nat) (listed : Array Bool) (a : Act) (w : World), t + k = ops.size → k ≤ fuel → listed.size = ops.size → Closed ops listed →
    (∀ i, i < t → listed.getD i false = true) → (∀ i, t ≤ i → i < ops.size → listed.getD i true = false) →
    (∀ listed', Closed ops listed' → ∀ i o, t ≤ i → ops[i]? = some o → (∀ e ∈ o.after, Region.binds .any e = true → listed'.getD e.on false = true) → ∀ j, j < i → listed'.getD j false = true) →
    wpList P ops Q (ops.toList.drop t) a w → wpAny P .any ops Q fuel listed a w := by
  intro k
  induction k with
  | zero =>
    intro t fuel listed a w htk _ hsz _ hl _ _ h
    have hdrop : ops.toList.drop t = [] := List.drop_eq_nil_of_le (by simp; omega)
    rw [hdrop] at h
    have hready : Region.ready .any ops listed = [] := by
      apply List.eq_nil_iff_forall_not_mem.2
      intro i hi
      obtain ⟨h0, o, ho, _⟩ := mem_ready.1 hi
      have hlt := (Array.getElem?_eq_some_iff.1 ho).1
      have := hl i (by omega)
      rw [getD_both h0] at this; cases this
    cases fuel with
    | zero => exact ⟨hready, h⟩
    | succ f => exact ⟨fun _ => h, fun i hi => by rw [hready] at hi; cases hi⟩
  | succ k ih =>
    intro t fuel listed a w htk hkf hsz hcl hl hu hm h
    have ht : t < ops.size := by omega
    obtain ⟨fuel, rfl⟩ : ∃ f, fuel = f + 1 := ⟨fuel - 1, by omega⟩
    have hot : ops[t]? = some ops[t] := Array.getElem?_eq_getElem ht
    have hback : ∀ i o, ops[i]? = some o → ∀ e ∈ o.after, Region.binds .any e = true → e.on < i := by
      intro i o ho e he hbi
      have hlt := (Array.getElem?_eq_some_iff.1 ho).1
      have := List.all_eq_true.1 hb i (List.mem_range.2 (by simpa using hlt))
      rw [show ops.toList[i]? = some o from by simpa using ho] at this
      have := Array.all_eq_true_iff_forall_mem.1 this e he
      simpa [hbi] using this
    have htr : t ∈ Region.ready .any ops listed := mem_ready.2 ⟨hu t (Nat.le_refl _) ht, _, hot, fun e he hbi => hl _ (hback t _ hot e he hbi)⟩
    refine ⟨fun h0 => (by rw [h0] at htr; cases htr), fun i hi => ?_⟩
    obtain ⟨h0, o, ho, hp⟩ := mem_ready.1 hi
    have hlt := (Array.getElem?_eq_some_iff.1 ho).1
    have hge : t ≤ i := by
      rcases Nat.lt_or_ge i t with h' | h'
      · have := hl i h'; rw [getD_both h0] at this; cases this
      · exact h'
    have hit : i = t := by
      rcases Nat.lt_or_ge t i with h' | h'
      · have := hm listed hcl i o hge ho hp t h'
        rw [getD_both (hu t (Nat.le_refl _) ht)] at this; cases this
      · omega
    subst hit
    have hoi : o = ops[i] := Option.some.inj (ho.symm.trans hot)
    have hdrop : ops.toList.drop i = o :: ops.toList.drop (i + 1) := by
      rw [List.drop_eq_getElem_cons (by simpa using ht)]; simp [hoi]
    rw [hdrop] at h
    have hcl' : Closed ops (listed.setIfInBounds i true) := by
      intro j oj hj hlj e he hbi
      by_cases hij : i = j
      · subst hij
        have : oj = o := Option.some.inj (hj.symm.trans ho)
        subst this
        exact getD_set_true (hp e he hbi)
      · rw [getD_set_ne false hij] at hlj
        exact getD_set_true (hcl j oj hj hlj e he hbi)
    have hih := fun a w => ih (i + 1) fuel (listed.setIfInBounds i true) a w (by omega) (by omega) (by simp [hsz]) hcl'
      (fun j hj => by
        by_cases hij : i = j
        · subst hij; simp [hsz, ht]
        · rw [getD_set_ne false hij]; exact hl j (by omega))
      (fun j hj hj' => by rw [getD_set_ne true (by omega)]; exact hu j (by omega) hj')
      (fun l' hc' j oj hj => hm l' hc' j oj (by omega))
    unfold wpOp
    simp only [ho]
    unfold wpList at h
    split
    · rename_i hw
      rw [if_pos hw] at h
      exact h.imp (Oper.wp_mono fun a w => hih a w) id
    · rename_i hw
      rw [if_neg hw] at h
      exact hih _ _ h
def unl (N : Nat) (listed : Array Bool) : Nat := ((List.range N).filter fun i => !listed.getD i true).length
theorem unl_set {N i : Nat} {listed : Array Bool} (hi : i < N) (hN : listed.size = N) (h : listed.getD i true = false) : unl N (listed.setIfInBounds i true) + 1 = unl N listed := by
  unfold unl
  have key : ∀ m, m ≤ N → ((List.range m).filter fun j => !(listed.setIfInBounds i true).getD j true).length + (if i < m then 1 else 0) = ((List.range m).filter fun j => !listed.getD j true).length := by
    intro m
    induction m with
    | zero => intro _; simp
    | succ m ih =>
      intro hm
      have := ih (by omega)
      rw [List.range_succ, List.filter_append, List.filter_append, List.length_append, List.length_append]
      by_cases e : i = m
      · subst e
        have h1 : (listed.setIfInBounds i true).getD i true = true := by simp [hN, hi]
        have e1 : ([i].filter fun j => !(listed.setIfInBounds i true).getD j true).length = 0 := by rw [List.filter_cons, h1]; simp
        have e2 : ([i].filter fun j => !listed.getD j true).length = 1 := by rw [List.filter_cons, h]; simp
        rw [e1, e2, if_pos (by omega)]
        rw [if_neg (by omega)] at this
        omega
      · have e1 : ([m].filter fun j => !(listed.setIfInBounds i true).getD j true) = ([m].filter fun j => !listed.getD j true) := by
          rw [List.filter_cons, List.filter_cons, getD_set_ne true e]; simp
        rw [e1]
        by_cases hlt : i < m
        · rw [if_pos hlt] at this; rw [if_pos (by omega)]; omega
        · rw [if_neg hlt] at this; rw [if_neg (by omega)]; omega
  have := key N (Nat.le_refl _)
  rw [if_pos hi] at this
  exact this
theorem unl_tail {N m : Nat} {listed : Array Bool} (hl : ∀ i, i < m → listed.getD i false = true) : unl N listed ≤ N - m := by
  unfold unl
  have hlt : ∀ i, i < m → listed.getD i true = true := fun i hi => by
    have := hl i hi
    cases h : listed.getD i true
    · rw [getD_both h] at this; cases this
    · rfl
  have key : ∀ k, k ≤ N → ((List.range k).filter fun j => !listed.getD j true).length ≤ k - m := by
    intro k
    induction k with
    | zero => intro _; simp
    | succ k ih =>
      intro hk
      have := ih (by omega)
      rw [List.range_succ, List.filter_append, List.length_append]
      by_cases e : k < m
      · have e2 : ([k].filter fun j => !listed.getD j true).length = 0 := by rw [List.filter_cons, hlt k e]; simp
        omega
      · have h2 : ([k].filter fun j => !listed.getD j true).length ≤ 1 := by
          rw [List.filter_cons]; split <;> simp
        omega
  exact key N (Nat.le_refl _)
theorem unl_ge {N m : Nat} {listed : Array Bool} (hl : ∀ i, m ≤ i → i < N → listed.getD i true = false) : N - m ≤ unl N listed := by
  unfold unl
  have key : ∀ k, k ≤ N → k - m ≤ ((List.range k).filter fun j => !listed.getD j true).length := by
    intro k
    induction k with
    | zero => intro _; simp
    | succ k ih =>
      intro hk
      have := ih (by omega)
      rw [List.range_succ, List.filter_append, List.length_append]
      by_cases e : k < m
      · omega
      · have e2 : ([k].filter fun j => !listed.getD j true).length = 1 := by rw [List.filter_cons, hl k (by omega) (by omega)]; simp
        omega
  exact key N (Nat.le_refl _)
theorem fin_use {X : Act → World → Prop} : ∀ (free : List Oper) (ss : List Spc) (L : Tm) (M : List Res) (R : List Fact), ss.length = free.length → Fin W n D X free ss L M R →
    ∀ (g : Nat → Value) (a : Act) (w : World), a.defers = D → FSat n L a → Inj free →
      (∀ i o s, free[i]? = some o → ss[i]? = some s → s.val (g i) ∧ (∀ d, o.dst = some d → a.tmps[d]? = some (g i))) →
      St W (lastOf ss g free.length ++ M) (fctOf ss (Array.replicate free.length true) g free.length ++ R) w → X a w
  | [], ss, L, M, R, _, h => fun g a w hd hf _ _ hS => by
    have : Imp W n D L M R X := by cases ss <;> exact h
    exact this a w hf hd (by simpa [lastOf, fctOf] using hS)
  | o :: os, [], L, M, R, hl, _ => by simp at hl
  | o :: os, s :: ss, L, M, R, hl, h => fun g a w hd hf hnd hv hS => by
    have hv0 := hv 0 o s rfl rfl
    have hfr : FSat n (putL o.dst (g 0) L) a := by
      cases hod : o.dst with
      | none => exact hf
      | some d =>
        refine ⟨hf.size, fun t v ht => ?_⟩
        simp only [putL] at ht
        by_cases e : d = t
        · subst e; rw [look_cons_eq] at ht; cases ht; exact hv0.2 d hod
        · rw [look_cons_ne e] at ht; exact hf.vals t v ht
    have hresS : lastOf (s :: ss) g (o :: os).length = s.last (g 0) ++ lastOf ss (fun i => g (i + 1)) os.length := by
      unfold lastOf
      rw [List.length_cons, List.range_succ_eq_map, List.flatMap_cons, List.flatMap_map]
      rfl
    have hfctS : ∀ (f : Spc → Value → List Fact), ((List.range (o :: os).length).flatMap fun i => if (Array.replicate (o :: os).length true).getD i false then (match (s :: ss)[i]? with | some s => f s (g i) | none => []) else []) =
        f s (g 0) ++ (List.range os.length).flatMap fun i => if (Array.replicate os.length true).getD i false then (match ss[i]? with | some s => f s (g (i + 1)) | none => []) else [] := by
      intro f
      rw [List.length_cons, List.range_succ_eq_map, List.flatMap_cons, List.flatMap_map]
      congr 1
      refine flatMap_same _ _ _ fun j hj => ?_
      have := List.mem_range.1 hj
      simp [this]
    unfold fctOf at hS
    rw [hresS, hfctS Spc.fs] at hS
    have hS' : St W (lastOf ss (fun i => g (i + 1)) os.length ++ (s.last (g 0) ++ M)) (fctOf ss (Array.replicate os.length true) (fun i => g (i + 1)) os.length ++ (s.fs (g 0) ++ R)) w := by
      refine (hS.perm ?_).weak ?_
      · rw [← List.append_assoc]
        exact List.perm_append_comm.append_right M
      · intro φ hφ
        unfold fctOf at hφ
        simp only [List.mem_append] at hφ ⊢
        rcases hφ with hφ | hφ | hφ
        · exact .inl (.inr hφ)
        · exact .inl (.inl hφ)
        · exact .inr hφ
    have hvs : ∀ i o' s', os[i]? = some o' → ss[i]? = some s' → s'.val (g (i + 1)) ∧ (∀ d, o'.dst = some d → a.tmps[d]? = some (g (i + 1))) := fun i o' s' e1 e2 => hv (i + 1) o' s' (by simpa using e1) (by simpa using e2)
    have hl' : ss.length = os.length := by simpa using hl
    unfold Fin at h
    cases hdet : s.det with
    | some v =>
      rw [hdet] at h
      have hv1 : g 0 = v := by have := hv0.1; simpa [Spc.val, hdet] using this
      rw [hv1] at hfr
      have hS2 : St W (lastOf ss (fun i => g (i + 1)) os.length ++ (s.last v ++ M)) (fctOf ss (Array.replicate os.length true) (fun i => g (i + 1)) os.length ++ (s.fct v ++ R)) w := hv1 ▸ hS'
      exact fin_use os ss _ _ _ hl' h _ a w hd hfr hnd.tail hvs hS2
    | none =>
      rw [hdet] at h
      have hv1 : s.pval (g 0) := by have := hv0.1; simpa [Spc.val, hdet] using this
      exact fin_use os ss _ _ _ hl' (h (g 0) hv1) _ a w hd hfr hnd.tail hvs hS'
theorem depD_on {ops : Array Oper} {o : Oper} {j : Nat} (h : depD ops o j = true) : depOn o j = true := by
  unfold depD at h
  simp only [Bool.and_eq_true] at h
  exact h.1
theorem depD_some {ops : Array Oper} {o p : Oper} {j : Nat} (hp : ops[j]? = some p) (h : depD ops o j = true) : p.dst.isSome = true := by
  unfold depD at h
  simp only [Bool.and_eq_true, hp] at h
  exact h.2
theorem freeB_spec {free : List Oper} (h : freeB free = true) {i : Nat} {o : Oper} (ho : free[i]? = some o) :
    (∀ j p, free[j]? = some p → p.dst.getD 1000000 ∈ tmpsOf o → depOn o j = true) ∧ (∀ g b, o.guard = some (g, b) → depOn o g = true ∧ g < free.length ∧ ∀ p, free[g]? = some p → p.dst.isSome = true) := by
  have h1 := List.all_eq_true.1 h o (List.mem_of_getElem? ho)
  simp only [Bool.and_eq_true] at h1
  refine ⟨fun j p hp hm => ?_, fun g b hg => ?_⟩
  · have hlt : j < free.length := (List.getElem?_eq_some_iff.1 hp).1
    have h2 := List.all_eq_true.1 h1.1 j (List.mem_range.2 hlt)
    simp only [hp, Bool.or_eq_true, Bool.not_eq_true', List.contains_eq_mem, decide_eq_false_iff_not] at h2
    rcases h2 with h2 | h2
    · exact absurd hm h2
    · exact h2
  · have h2 := h1.2
    simp only [hg, Bool.and_eq_true] at h2
    refine ⟨h2.1.1, by simpa using h2.1.2, fun p hp => ?_⟩
    have h3 := h2.2
    simpa [hp] using h3
theorem depOn_spec {o : Oper} {j : Nat} (h : depOn o j = true) : ∃ e ∈ o.after, Region.binds .any e = true ∧ e.on = j := by
  unfold depOn at h
  obtain ⟨e, he, hb⟩ := Array.any_eq_true'.1 h
  simp only [Bool.and_eq_true, beq_iff_eq] at hb
  exact ⟨e, he, hb.1, hb.2⟩
theorem least {p : Nat → Prop} (h : ∃ i, p i) : ∃ i, p i ∧ ∀ j, j < i → ¬ p j := by
  obtain ⟨i, hi⟩ := h
  induction i using Nat.strongRecOn with
  | _ i ih =>
    by_cases hj : ∃ j, j < i ∧ p j
    · obtain ⟨j, hlt, hp⟩ := hj; exact ih j hlt hp
    · exact ⟨i, hi, fun j hlt hp => hj ⟨j, hlt, hp⟩⟩
theorem J.next' {ops : Array Oper} {free : List Oper} {ss : List Spc} {listed : Array Bool} {a : Act} {w w' : World} (h : J W n D L M R ops free ss listed a w) {i : Nat} {o : Oper} {s : Spc} {v : Value} (hnd : Inj free)
    (hfr : ∀ o ∈ free, look L (o.dst.getD 1000000) = none) (hm : free.length ≤ ops.size) (hi : i ∈ Region.ready .any ops listed) (hoi : ops[i]? = some o) (ho : free[i]? = some o) (hs : ss[i]? = some s) (hlt : (match o.dst with | some d => Nat.blt d n | none => s.det.isNone) = true) (hv : s.val v)
    {g : Nat → Value} (hg : ∀ i o s, free[i]? = some o → ss[i]? = some s → listed.getD i false = true → s.val (g i) ∧ (∀ d, o.dst = some d → a.tmps[d]? = some (g i)))
    (hS' : St W (resOf ss (listed.setIfInBounds i true) (fun j => if j = i then v else g j) free.length ++ M) (s.fs v ++ (fctOf ss listed g free.length ++ R)) w') :
    J W n D L M R ops free ss (listed.setIfInBounds i true) (a.put o.dst v) w' := by
  obtain ⟨h0, o', ho', hp⟩ := mem_ready.1 hi
  have : o' = o := Option.some.inj (ho'.symm.trans hoi)
  subst this
  have him : i < free.length := (List.getElem?_eq_some_iff.1 ho).1
  have hlt' : ∀ d, o'.dst = some d → d < n := fun d hd => by rw [hd] at hlt; simpa using hlt
  refine ⟨by simp [h.size], ?_, ?_, ?_, by rw [put_defers]; exact h.defers, ?_⟩
  · intro j oj hj hlj e he hbi
    by_cases hij : i = j
    · subst hij
      have : oj = o' := Option.some.inj (hj.symm.trans hoi)
      subst this
      exact getD_set_true (hp e he hbi)
    · rw [getD_set_ne false hij] at hlj
      exact getD_set_true (h.closed j oj hj hlj e he hbi)
  · intro t ht ht'
    rw [getD_set_ne true (by omega)]; exact h.late t ht ht'
  · cases hd : o'.dst with
    | none => exact h.frame
    | some d =>
      refine ⟨by simp [Act.put, h.frame.size], fun t u ht => ?_⟩
      have hne : d ≠ t := by
        intro e; subst e
        have := hfr o' (List.mem_of_getElem? ho)
        rw [show o'.dst.getD 1000000 = d from by simp [hd], ht] at this; cases this
      simp only [Act.put]; rw [Array.getElem?_setIfInBounds_ne hne]; exact h.frame.vals t u ht
  · let g' : Nat → Value := fun j => if j = i then v else g j
    refine ⟨g', ?_, ?_⟩
    · intro j oj sj e1 e2 e3
      by_cases hij : i = j
      · subst hij
        have e4 : oj = o' := Option.some.inj (e1.symm.trans ho)
        have e5 : sj = s := Option.some.inj (e2.symm.trans hs)
        subst e4 e5
        refine ⟨by simp [g', hv], fun d hd => ?_⟩
        rw [hd]; simp [Act.put, h.frame.size, hlt' d hd, g']
      · rw [getD_set_ne false hij] at e3
        obtain ⟨k1, k2⟩ := hg j oj sj e1 e2 e3
        refine ⟨by simp [g', Ne.symm hij, k1], fun dj hdj => ?_⟩
        have k2 := k2 dj hdj
        cases hd : o'.dst with
        | none => simpa [Act.put, g', Ne.symm hij] using k2
        | some d =>
          have hne : d ≠ dj := by
            intro e
            exact hij (hnd i j _ _ ho e1 (by simp [hd]) (by simp [hd, hdj, e]))
          simp only [Act.put]; rw [Array.getElem?_setIfInBounds_ne hne]
          simpa [g', Ne.symm hij] using k2
    · have hsz : i < listed.size := by rw [h.size]; omega
      have pf : (fctOf ss (listed.setIfInBounds i true) g' free.length).Perm (s.fs v ++ fctOf ss listed g free.length) := by
        refine flatMap_upd _ _ i _ him _ ?_ ?_ ?_
        · simp only [getD_both h0]; simp
        · simp [hsz, hs, g']
        · intro j hj
          rw [getD_set_ne false (Ne.symm hj)]; simp [g', hj]
      refine hS'.weak ?_
      · intro φ hφ
        rcases List.mem_append.1 hφ with hφ | hφ
        · have := pf.mem_iff.1 hφ
          rcases List.mem_append.1 this with h1 | h1
          · exact List.mem_append_left _ h1
          · exact List.mem_append_right _ (List.mem_append_left _ h1)
        · exact List.mem_append_right _ (List.mem_append_right _ hφ)
theorem rsL_set {ops : Array Oper} {ss : List Spc} {listed : Array Bool} (hL : LateOK ops ss) {i : Nat} {s : Spc} (hs : ss[i]? = some s) {j : Nat} {sj : Spc} (hj : ss[j]? = some sj) (hne : s.of ≠ some j) (u : Value) : sj.rsL (listed.setIfInBounds i true) u = sj.rsL listed u := by
  unfold Spc.rsL
  cases hl : sj.late with
  | none => rfl
  | some kr =>
    obtain ⟨k, r⟩ := kr
    obtain ⟨_, ⟨sk, h1, h2⟩, _⟩ := hL j sj k r hj hl
    have hik : i ≠ k := by
      intro e; subst e
      have : sk = s := Option.some.inj (h1.symm.trans hs)
      subst this; exact hne h2
    dsimp only
    rw [getD_set_ne false hik]
theorem late_not {ops : Array Oper} {ss : List Spc} {listed : Array Bool} (hL : LateOK ops ss) (hc : Closed ops listed) {j : Nat} {sj : Spc} {k : Nat} {r : Value → List Res} (hj : ss[j]? = some sj) (hl : sj.late = some (k, r)) (h0 : listed.getD j false = false) : listed.getD k false = false := by
  obtain ⟨_, _, ok, h1, h2⟩ := hL j sj k r hj hl
  cases h : listed.getD k false
  · rfl
  · obtain ⟨e, he, hbi, hon⟩ := depOn_spec h2
    have := hc k ok h1 h e he hbi
    rw [hon, h0] at this; cases this
theorem J.next {ops : Array Oper} {free : List Oper} {ss : List Spc} {listed : Array Bool} {a : Act} {w w' : World} (h : J W n D L M R ops free ss listed a w) {i : Nat} {o : Oper} {s : Spc} {v : Value} (hnd : Inj free)
    (hfr : ∀ o ∈ free, look L (o.dst.getD 1000000) = none) (hm : free.length ≤ ops.size) (hi : i ∈ Region.ready .any ops listed) (hoi : ops[i]? = some o) (ho : free[i]? = some o) (hs : ss[i]? = some s) (hlt : (match o.dst with | some d => Nat.blt d n | none => s.det.isNone) = true) (hv : s.val v) (hof : s.of = none) (hL : LateOK ops ss)
    {g : Nat → Value} (hg : ∀ i o s, free[i]? = some o → ss[i]? = some s → listed.getD i false = true → s.val (g i) ∧ (∀ d, o.dst = some d → a.tmps[d]? = some (g i)))
    (hS' : St W (s.rs v ++ (restOf ss listed g free.length i ++ M)) (s.fs v ++ (fctOf ss listed g free.length ++ R)) w') :
    J W n D L M R ops free ss (listed.setIfInBounds i true) (a.put o.dst v) w' := by
  obtain ⟨h0, o', ho', hp⟩ := mem_ready.1 hi
  have him : i < free.length := (List.getElem?_eq_some_iff.1 ho).1
  have hsz : i < listed.size := by rw [h.size]; omega
  refine h.next' hnd hfr hm hi hoi ho hs hlt hv hg (hS'.perm ?_)
  have hrs : s.rsL (listed.setIfInBounds i true) v = s.rs v := by
    rw [rsL_set hL hs hs (by rw [hof]; simp)]
    unfold Spc.rsL Spc.rs
    cases hl : s.late with
    | none => rfl
    | some kr =>
      obtain ⟨k, r⟩ := kr
      dsimp only
      rw [late_not hL h.closed hs hl (getD_both h0)]
      rfl
  have pr : (resOf ss (listed.setIfInBounds i true) (fun j => if j = i then v else g j) free.length).Perm (s.rs v ++ restOf ss listed g free.length i) := by
    refine flatMap_upd _ _ i _ him _ ?_ ?_ ?_
    · simp
    · simp only [if_true, hs]
      rw [hrs]
      simp [hsz]
    · intro j hj
      rw [getD_set_ne false (Ne.symm hj)]
      cases hsj : ss[j]? with
      | none => simp [hj]
      | some sj =>
        have := rsL_set (listed := listed) hL hs hsj (by rw [hof]; simp) (g j)
        simp [hj, this]
  rw [← List.append_assoc]; exact (pr.append_right M).symm
theorem J.next5 {ops : Array Oper} {free : List Oper} {ss : List Spc} {listed : Array Bool} {a : Act} {w w' : World} (h : J W n D L M R ops free ss listed a w) {i j : Nat} {o : Oper} {sj : Spc} {r : Value → List Res} {v : Value} (hnd : Inj free)
    (hfr : ∀ o ∈ free, look L (o.dst.getD 1000000) = none) (hm : free.length ≤ ops.size) (hi : i ∈ Region.ready .any ops listed) (hoi : ops[i]? = some o) (ho : free[i]? = some o) {det : Option Value} {pval : Value → Prop} {ab : Option (List PanicEntry)} {fct : Value → List Fact} (hs : ss[i]? = some (Spc.s5 det pval j ab fct)) (hv : (Spc.s5 det pval j ab fct).val v) (hlt : (match o.dst with | some d => Nat.blt d n | none => (Spc.s5 det pval j ab fct).det.isNone) = true) (hL : LateOK ops ss)
    (hsj : ss[j]? = some sj) (hlate : sj.late = some (i, r)) (hlj : listed.getD j false = true) (hjl : j < free.length)
    {g : Nat → Value} (hg : ∀ i o s, free[i]? = some o → ss[i]? = some s → listed.getD i false = true → s.val (g i) ∧ (∀ d, o.dst = some d → a.tmps[d]? = some (g i)))
    (hS' : St W (r (g j) ++ (((List.range free.length).flatMap fun t => if t = j then [] else if t = i then [] else if listed.getD t false then (match ss[t]? with | some s => s.rsL listed (g t) | none => []) else (match ss[t]? with | some s => s.pre | none => [])) ++ M)) (fct v ++ (fctOf ss listed g free.length ++ R)) w') :
    J W n D L M R ops free ss (listed.setIfInBounds i true) (a.put o.dst v) w' := by
  obtain ⟨h0, o', ho', hp⟩ := mem_ready.1 hi
  have him : i < free.length := (List.getElem?_eq_some_iff.1 ho).1
  have hsz : i < listed.size := by rw [h.size]; omega
  have hne : j ≠ i := by
    intro e; subst e
    rw [getD_both h0] at hlj; cases hlj
  have hS2 : St W (r (g j) ++ (((List.range free.length).flatMap fun t => if t = j then [] else if t = i then [] else if listed.getD t false then (match ss[t]? with | some s => s.rsL listed (g t) | none => []) else (match ss[t]? with | some s => s.pre | none => [])) ++ M)) ((Spc.s5 det pval j ab fct).fs v ++ (fctOf ss listed g free.length ++ R)) w' := hS'
  refine h.next' hnd hfr hm hi hoi ho hs hlt hv hg (hS2.perm ?_)
  have pr : (resOf ss (listed.setIfInBounds i true) (fun j => if j = i then v else g j) free.length).Perm (r (g j) ++ ((List.range free.length).flatMap fun t => if t = j then [] else if t = i then [] else if listed.getD t false then (match ss[t]? with | some s => s.rsL listed (g t) | none => []) else (match ss[t]? with | some s => s.pre | none => []))) := by
    refine flatMap_upd _ _ j _ hjl _ ?_ ?_ ?_
    · simp
    · rw [getD_set_ne false (Ne.symm hne)]
      simp only [hlj, if_true, hsj, hne, if_false]
      unfold Spc.rsL
      rw [hlate]
      simp [hsz]
    · intro t ht
      by_cases hti : t = i
      · subst hti
        simp [hsz, hs, ht, Spc.rsL, Spc.s5]
      · rw [getD_set_ne false (Ne.symm hti)]
        cases hst : ss[t]? with
        | none => simp [ht, hti]
        | some st =>
          have := rsL_set (listed := listed) hL hs hst (by show some j ≠ some t; simpa using (Ne.symm ht)) (g t)
          simp [ht, hti, this]
  rw [← List.append_assoc]; exact (pr.append_right M).symm
theorem J.next6 {ops : Array Oper} {free : List Oper} {ss : List Spc} {listed : Array Bool} {a : Act} {w w' : World} (h : J W n D L M R ops free ss listed a w) {i j : Nat} {o : Oper} {sj : Spc} {r res : Value → List Res} {v : Value} (hnd : Inj free)
    (hfr : ∀ o ∈ free, look L (o.dst.getD 1000000) = none) (hm : free.length ≤ ops.size) (hi : i ∈ Region.ready .any ops listed) (hoi : ops[i]? = some o) (ho : free[i]? = some o) {det : Option Value} {pval : Value → Prop} (hs : ss[i]? = some (Spc.s6 det pval res j)) (hv : (Spc.s6 det pval res j).val v) (hlt : (match o.dst with | some d => Nat.blt d n | none => (Spc.s6 det pval res j).det.isNone) = true) (hL : LateOK ops ss)
    (hsj : ss[j]? = some sj) (hlate : sj.late = some (i, r)) (hlj : listed.getD j false = true) (hjl : j < free.length)
    {g : Nat → Value} (hg : ∀ i o s, free[i]? = some o → ss[i]? = some s → listed.getD i false = true → s.val (g i) ∧ (∀ d, o.dst = some d → a.tmps[d]? = some (g i)))
    (hS' : St W ((res v ++ r (g j)) ++ (((List.range free.length).flatMap fun t => if t = j then [] else if t = i then [] else if listed.getD t false then (match ss[t]? with | some s => s.rsL listed (g t) | none => []) else (match ss[t]? with | some s => s.pre | none => [])) ++ M)) (fctOf ss listed g free.length ++ R) w') :
    J W n D L M R ops free ss (listed.setIfInBounds i true) (a.put o.dst v) w' := by
  obtain ⟨h0, o', ho', hp⟩ := mem_ready.1 hi
  have him : i < free.length := (List.getElem?_eq_some_iff.1 ho).1
  have hsz : i < listed.size := by rw [h.size]; omega
  have hne : j ≠ i := by
    intro e; subst e
    rw [getD_both h0] at hlj; cases hlj
  have hS2 : St W ((res v ++ r (g j)) ++ (((List.range free.length).flatMap fun t => if t = j then [] else if t = i then [] else if listed.getD t false then (match ss[t]? with | some s => s.rsL listed (g t) | none => []) else (match ss[t]? with | some s => s.pre | none => [])) ++ M)) ((Spc.s6 det pval res j).fs v ++ (fctOf ss listed g free.length ++ R)) w' := hS'
  refine h.next' hnd hfr hm hi hoi ho hs hlt hv hg (hS2.perm ?_)
  have pr : (resOf ss (listed.setIfInBounds i true) (fun j => if j = i then v else g j) free.length).Perm (r (g j) ++ ((List.range free.length).flatMap fun t => if t = j then [] else if t = i then res v else if listed.getD t false then (match ss[t]? with | some s => s.rsL listed (g t) | none => []) else (match ss[t]? with | some s => s.pre | none => []))) := by
    refine flatMap_upd _ _ j _ hjl _ ?_ ?_ ?_
    · simp
    · rw [getD_set_ne false (Ne.symm hne)]
      simp only [hlj, if_true, hsj, hne, if_false]
      unfold Spc.rsL
      rw [hlate]
      simp [hsz]
    · intro t ht
      by_cases hti : t = i
      · subst hti
        simp [hsz, hs, ht, Spc.rsL, Spc.s6]
      · rw [getD_set_ne false (Ne.symm hti)]
        cases hst : ss[t]? with
        | none => simp [ht, hti]
        | some st =>
          have := rsL_set (listed := listed) hL hs hst (by show some j ≠ some t; simpa using (Ne.symm ht)) (g t)
          simp [ht, hti, this]
  have pr2 : ((List.range free.length).flatMap fun t => if t = j then [] else if t = i then res v else if listed.getD t false then (match ss[t]? with | some s => s.rsL listed (g t) | none => []) else (match ss[t]? with | some s => s.pre | none => [])).Perm (res v ++ ((List.range free.length).flatMap fun t => if t = j then [] else if t = i then [] else if listed.getD t false then (match ss[t]? with | some s => s.rsL listed (g t) | none => []) else (match ss[t]? with | some s => s.pre | none => []))) := by
    refine flatMap_upd _ _ i _ him _ ?_ ?_ ?_
    · simp
    · simp [Ne.symm hne]
    · intro t ht
      by_cases htj : t = j
      · simp [htj]
      · simp [htj, ht]
  have pr3 := pr.trans (pr2.append_left (r (g j)))
  rw [← List.append_assoc]
  refine List.Perm.trans ?_ (pr3.append_right M).symm
  refine List.Perm.append_right M ?_
  rw [← List.append_assoc]
  exact List.perm_append_comm.append_right _
theorem FSat.add {n : Nat} {L : Tm} {a : Act} {t : Nat} {v : Value} (h : FSat n L a) (ht : a.tmps[t]? = some v) : FSat n ((t, v) :: L) a := by
  refine ⟨h.size, fun u x hx => ?_⟩
  by_cases e : t = u
  · subst e
    rw [look_cons_eq] at hx
    cases hx; exact ht
  · rw [look_cons_ne e] at hx
    exact h.vals u x hx
theorem St.drop2 {Y A M : List Res} {F R : List Fact} {w : World} (h : St W (Y ++ (A ++ M)) F w) (hF : ∀ φ ∈ R, φ ∈ F) : St W M R w := by
  have h2 : St W ((Y ++ A) ++ M) F w := by rw [List.append_assoc]; exact h
  exact h2.dropAll.weak hF
theorem par_step {free tail : List Oper} {ss : List Spc} (hpb : parB free tail = true) (hl : ss.length = free.length) (hfr : ∀ o ∈ free, look L (o.dst.getD 1000000) = none) (hL : LateOK (free ++ tail).toArray ss) (hab : ∀ (i : Nat) (s : Spc) (c : List PanicEntry), ss[i]? = some s → s.ab = some c → Imp W n D L M R (Q (.panic c)))
    (hstep : ∀ i o s, free[i]? = some o → ss[i]? = some s → Step1 P W n M R (free ++ tail).toArray ss i o s (detL (free.take i) (ss.take i) L))
    {listed : Array Bool} {a : Act} {w : World} (hJ : J W n D L M R (free ++ tail).toArray free ss listed a w) {i : Nat} (hi : i ∈ Region.ready .any (free ++ tail).toArray listed) (him : i < free.length) (K : Act → World → Prop) (hK : ∀ a' w', J W n D L M R (free ++ tail).toArray free ss (listed.setIfInBounds i true) a' w' → K a' w') :
    wpOp P (free ++ tail).toArray Q i K a w := by
  simp only [parB, Bool.and_eq_true] at hpb
  obtain ⟨⟨⟨⟨hns, hfree⟩, hnd0⟩, hback⟩, htail⟩ := hpb
  have hnd := injB_sound hnd0
  have hmN : free.length ≤ (free ++ tail).length := by simp
  have hmask : ∀ listed', Closed (free ++ tail).toArray listed' → ∀ i o, free.length ≤ i → (free ++ tail).toArray[i]? = some o → (∀ e ∈ o.after, Region.binds .any e = true → listed'.getD e.on false = true) → ∀ j, j < i → listed'.getD j false = true := by
    intro listed' hc i o hi ho hp j hj
    have hlt : i < (free ++ tail).length := by simpa using (Array.getElem?_eq_some_iff.1 ho).1
    have h1 := List.all_eq_true.1 htail i (List.mem_range.2 hlt)
    simp only [Bool.or_eq_true] at h1
    rcases h1 with h1 | h1
    · have : i < free.length := by simpa using h1
      omega
    · have h2 := List.all_eq_true.1 h1 j (List.mem_range.2 hj)
      exact (masks_sound hc (free ++ tail) [] (fun j => by simp) (fun i hi => by simp at hi)).1 i o (Nat.zero_le _) ho hp j h2
  have hbk : ∀ i o, (free ++ tail).toArray[i]? = some o → ∀ e ∈ o.after, Region.binds .any e = true → e.on < i := by
    intro i o ho e he hbi
    have hlt : i < (free ++ tail).length := by simpa using (Array.getElem?_eq_some_iff.1 ho).1
    have := List.all_eq_true.1 hback i (List.mem_range.2 hlt)
    rw [show (free ++ tail)[i]? = some o from by simpa using ho] at this
    have := Array.all_eq_true_iff_forall_mem.1 this e he
    simpa [hbi] using this
  obtain ⟨h0, o, hoi, hp⟩ := mem_ready.1 hi
  have ho : free[i]? = some o := by
    have h1 : (free ++ tail)[i]? = some o := by simpa using hoi
    rwa [List.getElem?_append_left him] at h1
  have hsi : i < ss.length := by omega
  have hs : ss[i]? = some ss[i] := List.getElem?_eq_getElem hsi
  have st := hstep i o ss[i] ho hs
  obtain ⟨fops, fgd⟩ := freeB_spec hfree ho
  obtain ⟨a', f1, f2, f3⟩ := mk_frame (n := n) (free.take i) (ss.take i) hJ.frame (fun j p sj e1 e2 => by
    have hji : j < i := by have := (List.getElem?_eq_some_iff.1 e1).1; simp at this; omega
    rw [List.getElem?_take, if_pos hji] at e1 e2
    exact (hstep j p sj e1 e2).lt) (hnd.take i)
  obtain ⟨g, hg, hS⟩ := hJ.vals
  have hag : ∀ t, (∀ j p, free[j]? = some p → p.dst.getD 1000000 = t → j < i → listed.getD j false = true) → a'.tmps[t]? = a.tmps[t]? := by
    intro t ht
    by_cases hex2 : ∃ (j : Nat) (p : Oper) (s : Spc) (v : Value), (free.take i)[j]? = some p ∧ (ss.take i)[j]? = some s ∧ s.det = some v ∧ p.dst.getD 1000000 = t
    · obtain ⟨j, p, s, v, e1, e2, e3, e4⟩ := hex2
      have hji : j < i := by have := (List.getElem?_eq_some_iff.1 e1).1; simp at this; omega
      have e1' : free[j]? = some p := by rw [List.getElem?_take, if_pos hji] at e1; exact e1
      have e2' : ss[j]? = some s := by rw [List.getElem?_take, if_pos hji] at e2; exact e2
      have hlj := ht j p e1' e4 hji
      obtain ⟨k1, k2⟩ := hg j p s e1' e2' hlj
      have hgv : g j = v := by simpa [Spc.val, e3] using k1
      obtain ⟨dj, hdj⟩ : ∃ d, p.dst = some d := by
        have := (hstep j p s e1' e2').lt
        cases hod : p.dst with
        | none => rw [hod, e3] at this; simp at this
        | some d => exact ⟨d, rfl⟩
      rw [← e4, f3 j p s v e1 e2 e3, show p.dst.getD 1000000 = dj from by simp [hdj], k2 dj hdj, hgv]
    · exact f2 t (fun j p s v e1 e2 e3 e4 => hex2 ⟨j, p, s, v, e1, e2, e3, e4⟩)
  have hev : ∀ x ∈ o.op.operands, a.eval x = a'.eval x := by
    intro x hx
    cases x with
    | tmp t =>
      have := hag t (fun j p e1 e2 _ => by
        obtain ⟨e, he, hbi, hon⟩ := depOn_spec (fops j p e1 (by
          rw [e2]; unfold tmpsOf
          exact List.mem_filterMap.2 ⟨.tmp t, by simpa using hx, rfl⟩))
        have := hp e he hbi
        rwa [hon] at this)
      simp [Act.eval, this]
    | const v => rfl
    | global v => rfl
    | func v => rfl
  have hex3 : execOp a.eval o = execOp a'.eval o := execOp_congr o (Region.noSelect_spec hns i o · · hoi) hev
  have hyl : ∀ j b, o.guard = some (j, b) → yielded (free ++ tail).toArray a.tmps j = yielded (free ++ tail).toArray a'.tmps j := by
    intro j b hgd
    obtain ⟨hdep, hjl, hdsome⟩ := fgd j b hgd
    obtain ⟨e, he, hbi, hon⟩ := depOn_spec hdep
    have hlj : listed.getD j false = true := by have := hp e he hbi; rwa [hon] at this
    have hoj : free[j]? = some free[j] := List.getElem?_eq_getElem hjl
    have hopj : (free ++ tail).toArray[j]? = some free[j] := by
      have : (free ++ tail)[j]? = some free[j] := by rw [List.getElem?_append_left hjl]; exact hoj
      simpa using this
    unfold yielded
    rw [hopj]
    obtain ⟨dj, hdj⟩ := Option.isSome_iff_exists.1 (hdsome _ hoj)
    simp only [Option.bind_some, hdj]
    rw [hag dj (fun j' p e1 e2 _ => by
      have := hnd j j' _ _ hoj e1 (by simp [hdj]) (by rw [e2]; simp [hdj])
      rw [← this]; exact hlj)]
  have hsep : (resOf ss listed g free.length ++ M).Perm (restOf ss listed g free.length i ++ (ss[i].pre ++ M)) := by
    have p1 : (resOf ss listed g free.length).Perm (ss[i].pre ++ restOf ss listed g free.length i) := by
      refine flatMap_upd _ _ i _ him _ ?_ ?_ ?_
      · simp
      · simp only [getD_both h0]; simp [hs]
      · intro j hj; simp [hj]
    refine (p1.append_right M).trans ?_
    rw [← List.append_assoc]
    exact List.perm_append_comm.append_right M
  have hS1 := hS.perm hsep
  have hgo : ss[i].of = none → ∀ v w', ss[i].val v → St W (ss[i].rs v ++ (restOf ss listed g free.length i ++ M)) (ss[i].fs v ++ (fctOf ss listed g free.length ++ R)) w' →
      K (a.put o.dst v) w' := by
    intro hof v w' hv hst
    exact hK _ _ (hJ.next hnd hfr (by simp) hi hoi ho hs st.lt hv hof hL hg hst)
  unfold wpOp
  simp only [hoi]
  rcases st.run with ⟨hof, ⟨hgd, hop⟩ | ⟨j, b, hgd, hsd, hsq⟩ | ⟨hgd, j, oj, sj, hoj, hsj, hdj, hdep, hop⟩ | ⟨hgd, hsu, j, oj, sj, hoj, hsj, hdj, hlt0, hdep, hop⟩⟩ | ⟨hgd, j, oj, sj, r, det, pval, ab, fct, hsu, hoj, hsj, hdj, hlt0, hdep, hop⟩ | ⟨hgd, j, oj, sj, r, det, pval, res, q, oq, sq, hsu, hoj, hsj, hdj, hlt0, hdep, hoq, hsq, hdq, hdepq, hop⟩
  · have hw : Region.wanted o (yielded (free ++ tail).toArray a.tmps) = true := by
      rcases hgd with hgd | ⟨j, b, hgd, hsd⟩
      · simp [Region.wanted, hgd]
      · simp only [Region.wanted, hgd, hyl j b hgd, said_sound f1 hsd]; simp
    rw [if_pos hw]
    left
    unfold Oper.wp
    have h3 := hop (restOf ss listed g free.length i) (fctOf ss listed g free.length) a' w f1 hS1
    rw [hex3]
    generalize (execOp a'.eval o).run P w = r at h3
    cases r with
    | ok x w' =>
      cases x <;> simp only [upG] at h3
      case value v => exact hgo hof v w' h3.1 h3.2
      case skip => exact hgo hof undef w' h3.1 h3.2
      case enter f args =>
        obtain ⟨rfl, hc⟩ := h3
        refine hc.mono ?_
        rintro e w'' (⟨v, rfl, h4, h5⟩ | ⟨c, rfl, hc1, Y, hc2⟩)
        · exact hgo hof v w'' h4 h5
        · exact hab i ss[i] c hs hc1 a w'' hJ.frame hJ.defers (hc2.drop2 (fun φ hφ => List.mem_append_right _ hφ))
    | halt x w' => exact h3.elim
  · have hw : ¬ Region.wanted o (yielded (free ++ tail).toArray a.tmps) = true := by
      simp only [Region.wanted, hgd, hyl j b hgd, saidNo_sound f1 hsd]; simp
    rw [if_neg hw]
    refine hgo hof undef w ?_ ?_
    · rw [hsq]; rfl
    · have hS2 := hS1
      rw [hsq] at hS2 ⊢
      exact hS2
  · have hw : Region.wanted o (yielded (free ++ tail).toArray a.tmps) = true := by simp [Region.wanted, hgd]
    rw [if_pos hw]
    left
    unfold Oper.wp
    have hjl : j < free.length := by have := (List.getElem?_eq_some_iff.1 hsj).1; omega
    have hoj' : free[j]? = some oj := by
      have h1 : (free ++ tail)[j]? = some oj := by simpa using hoj
      rwa [List.getElem?_append_left hjl] at h1
    obtain ⟨e, he, hbi, hon⟩ := depOn_spec (depD_on hdep)
    have hlj : listed.getD j false = true := by have := hp e he hbi; rwa [hon] at this
    obtain ⟨k1, k2⟩ := hg j oj sj hoj' hsj hlj
    have hpv : sj.pval (g j) := by simpa [Spc.val, hdj] using k1
    have hsub : ∀ φ ∈ sj.fct (g j), φ ∈ fctOf ss listed g free.length := by
      intro φ hφ
      unfold fctOf
      refine List.mem_flatMap.2 ⟨j, List.mem_range.2 hjl, ?_⟩
      rw [hlj, hsj]
      simpa [Spc.fs, hdj] using hφ
    have hka : a'.tmps[oj.dst.getD 1000000]? = some (g j) := by
      rw [hag (oj.dst.getD 1000000) (fun j' p e1 e2 _ => by
        have := hnd j j' _ _ hoj' e1 (depD_some hoj hdep) e2.symm
        rw [← this]; exact hlj)]
      obtain ⟨dj, hdj'⟩ := Option.isSome_iff_exists.1 (depD_some hoj hdep)
      rw [show oj.dst.getD 1000000 = dj from by simp [hdj']]
      exact k2 dj hdj'
    have f1' : FSat n ((oj.dst.getD 1000000, g j) :: detL (free.take i) (ss.take i) L) a' := by
      refine ⟨f1.size, fun t v hv => ?_⟩
      by_cases et : oj.dst.getD 1000000 = t
      · subst et
        rw [look_cons_eq] at hv
        cases hv; exact hka
      · rw [look_cons_ne et] at hv
        exact f1.vals t v hv
    have hS' : St W (restOf ss listed g free.length i ++ (ss[i].pre ++ M)) (fctOf ss listed g free.length ++ (sj.fct (g j) ++ R)) w := hS1.weak (fun φ hφ => by
      rcases List.mem_append.1 hφ with h | h
      · exact List.mem_append_left _ h
      · rcases List.mem_append.1 h with h | h
        · exact List.mem_append_left _ (hsub φ h)
        · exact List.mem_append_right _ h)
    have hback : ∀ {X : List Res} {Y : List Fact} {w' : World}, St W X (Y ++ (fctOf ss listed g free.length ++ (sj.fct (g j) ++ R))) w' → St W X (Y ++ (fctOf ss listed g free.length ++ R)) w' := fun h => h.weak (fun φ hφ => by
      rcases List.mem_append.1 hφ with h | h
      · exact List.mem_append_left _ h
      · rcases List.mem_append.1 h with h | h
        · exact List.mem_append_right _ (List.mem_append_left _ h)
        · exact List.mem_append_right _ (List.mem_append_right _ (List.mem_append_right _ h)))
    have h3 := hop (g j) hpv (restOf ss listed g free.length i) (fctOf ss listed g free.length) a' w f1' hS'
    rw [hex3]
    generalize (execOp a'.eval o).run P w = r at h3
    cases r with
    | ok x w' =>
      cases x <;> simp only [upG] at h3
      case value v => exact hgo hof v w' h3.1 (hback h3.2)
      case skip => exact hgo hof undef w' h3.1 (hback h3.2)
      case enter f args =>
        obtain ⟨rfl, hc⟩ := h3
        refine hc.mono ?_
        rintro e w'' (⟨v, rfl, h4, h5⟩ | ⟨c, rfl, hc1, Y, hc2⟩)
        · exact hgo hof v w'' h4 (hback h5)
        · exact hab i ss[i] c hs hc1 a w'' hJ.frame hJ.defers (hc2.drop2 (fun φ hφ => List.mem_append_right _ (List.mem_append_right _ hφ)))
    | halt x w' => exact h3.elim
  · have hw : Region.wanted o (yielded (free ++ tail).toArray a.tmps) = true := by simp [Region.wanted, hgd]
    rw [if_pos hw]
    left
    unfold Oper.wp
    have hjl : j < free.length := by have := (List.getElem?_eq_some_iff.1 hsj).1; omega
    have hoj' : free[j]? = some oj := by
      have h1 : (free ++ tail)[j]? = some oj := by simpa using hoj
      rwa [List.getElem?_append_left hjl] at h1
    obtain ⟨e, he, hbi, hon⟩ := depOn_spec (depD_on hdep)
    have hlj : listed.getD j false = true := by have := hp e he hbi; rwa [hon] at this
    obtain ⟨k1, k2⟩ := hg j oj sj hoj' hsj hlj
    have hpv : sj.pval (g j) := by simpa [Spc.val, hdj] using k1
    have hsub : ∀ φ ∈ sj.fct (g j), φ ∈ fctOf ss listed g free.length := by
      intro φ hφ
      unfold fctOf
      refine List.mem_flatMap.2 ⟨j, List.mem_range.2 hjl, ?_⟩
      rw [hlj, hsj]
      simpa [Spc.fs, hdj] using hφ
    have hka : a'.tmps[oj.dst.getD 1000000]? = some (g j) := by
      rw [hag (oj.dst.getD 1000000) (fun j' p e1 e2 _ => by
        have := hnd j j' _ _ hoj' e1 (depD_some hoj hdep) e2.symm
        rw [← this]; exact hlj)]
      obtain ⟨dj, hdj'⟩ := Option.isSome_iff_exists.1 (depD_some hoj hdep)
      rw [show oj.dst.getD 1000000 = dj from by simp [hdj']]
      exact k2 dj hdj'
    have f1' : FSat n ((oj.dst.getD 1000000, g j) :: detL (free.take i) (ss.take i) L) a' := by
      refine ⟨f1.size, fun t v hv => ?_⟩
      by_cases et : oj.dst.getD 1000000 = t
      · subst et
        rw [look_cons_eq] at hv
        cases hv; exact hka
      · rw [look_cons_ne et] at hv
        exact f1.vals t v hv
    have hpre : ss[i].pre = [] := by rw [hsu]; rfl
    have hrs : ∀ v, ss[i].rs v = [] := fun v => by rw [hsu]; rfl
    have hfs : ∀ v, ss[i].fs v = [] := fun v => by rw [hsu]; rfl
    have hval : ∀ v, ss[i].val v := fun v => by rw [hsu]; trivial
    have hne : j ≠ i := by
      intro e; subst e
      rw [getD_both h0] at hlj; cases hlj
    obtain ⟨X, hX⟩ : ∃ X, (restOf ss listed g free.length i).Perm (sj.res (g j) ++ X) := by
      refine ⟨(List.range free.length).flatMap fun t => if t = j then [] else if t = i then [] else if listed.getD t false then (match ss[t]? with | some s => s.rsL listed (g t) | none => []) else (match ss[t]? with | some s => s.pre | none => []), ?_⟩
      refine flatMap_upd _ _ j _ hjl _ ?_ ?_ ?_
      · simp
      · simp only [hne, if_false, hlj, if_true, hsj]; unfold Spc.rsL; rw [hlt0]
      · intro t ht; simp [ht]
    have hS1 : St W (X ++ (sj.res (g j) ++ M)) (fctOf ss listed g free.length ++ R) w := by
      refine hS1.perm ?_
      rw [hpre, List.nil_append, ← List.append_assoc]
      exact (hX.trans List.perm_append_comm).append_right M
    have hS' : St W (X ++ (sj.res (g j) ++ M)) (fctOf ss listed g free.length ++ (sj.fct (g j) ++ R)) w := hS1.weak (fun φ hφ => by
      rcases List.mem_append.1 hφ with h | h
      · exact List.mem_append_left _ h
      · rcases List.mem_append.1 h with h | h
        · exact List.mem_append_left _ (hsub φ h)
        · exact List.mem_append_right _ h)
    have hback : ∀ {X : List Res} {Y : List Fact} {w' : World}, St W X (Y ++ (fctOf ss listed g free.length ++ (sj.fct (g j) ++ R))) w' → St W X (Y ++ (fctOf ss listed g free.length ++ R)) w' := fun h => h.weak (fun φ hφ => by
      rcases List.mem_append.1 hφ with h | h
      · exact List.mem_append_left _ h
      · rcases List.mem_append.1 h with h | h
        · exact List.mem_append_right _ (List.mem_append_left _ h)
        · exact List.mem_append_right _ (List.mem_append_right _ (List.mem_append_right _ h)))
    have hfin : ∀ {v : Value} {w' : World}, St W (sj.res (g j) ++ (X ++ M)) (fctOf ss listed g free.length ++ (sj.fct (g j) ++ R)) w' → St W (ss[i].rs v ++ (restOf ss listed g free.length i ++ M)) (ss[i].fs v ++ (fctOf ss listed g free.length ++ R)) w' := fun {v w'} h => by
      rw [hrs, hfs]
      refine (hback (Y := []) h).perm ?_
      simp only [List.nil_append]
      rw [← List.append_assoc]
      exact hX.symm.append_right M
    have h3 := hop (g j) hpv X (fctOf ss listed g free.length) a' w f1' hS'
    rw [hex3]
    generalize (execOp a'.eval o).run P w = r at h3
    cases r with
    | ok x w' =>
      cases x <;> simp only [upG] at h3
      case value v => exact hgo hof v w' (hval v) (hfin h3.2)
      case skip => exact hgo hof undef w' (hval _) (hfin h3.2)
      case enter f args =>
        obtain ⟨rfl, hc⟩ := h3
        refine hc.mono ?_
        rintro e w'' (⟨v, rfl, h4, h5⟩ | ⟨c, rfl, hc1, Y, hc2⟩)
        · exact hgo hof v w'' (hval v) (hfin h5)
        · cases hc1
    | halt x w' => exact h3.elim
  · have hw : Region.wanted o (yielded (free ++ tail).toArray a.tmps) = true := by simp [Region.wanted, hgd]
    rw [if_pos hw]
    left
    unfold Oper.wp
    have hjl : j < free.length := by have := (List.getElem?_eq_some_iff.1 hsj).1; omega
    have hoj' : free[j]? = some oj := by
      have h1 : (free ++ tail)[j]? = some oj := by simpa using hoj
      rwa [List.getElem?_append_left hjl] at h1
    obtain ⟨e, he, hbi, hon⟩ := depOn_spec (depD_on hdep)
    have hlj : listed.getD j false = true := by have := hp e he hbi; rwa [hon] at this
    obtain ⟨k1, k2⟩ := hg j oj sj hoj' hsj hlj
    have hpv : sj.pval (g j) := by simpa [Spc.val, hdj] using k1
    have hsub : ∀ φ ∈ sj.fct (g j), φ ∈ fctOf ss listed g free.length := by
      intro φ hφ
      unfold fctOf
      refine List.mem_flatMap.2 ⟨j, List.mem_range.2 hjl, ?_⟩
      rw [hlj, hsj]
      simpa [Spc.fs, hdj] using hφ
    have hka : a'.tmps[oj.dst.getD 1000000]? = some (g j) := by
      rw [hag (oj.dst.getD 1000000) (fun j' p e1 e2 _ => by
        have := hnd j j' _ _ hoj' e1 (depD_some hoj hdep) e2.symm
        rw [← this]; exact hlj)]
      obtain ⟨dj, hdj'⟩ := Option.isSome_iff_exists.1 (depD_some hoj hdep)
      rw [show oj.dst.getD 1000000 = dj from by simp [hdj']]
      exact k2 dj hdj'
    have f1' : FSat n ((oj.dst.getD 1000000, g j) :: detL (free.take i) (ss.take i) L) a' := by
      refine ⟨f1.size, fun t v hv => ?_⟩
      by_cases et : oj.dst.getD 1000000 = t
      · subst et
        rw [look_cons_eq] at hv
        cases hv; exact hka
      · rw [look_cons_ne et] at hv
        exact f1.vals t v hv
    have hpre : ss[i].pre = [] := by rw [hsu]; rfl
    have hne : j ≠ i := by
      intro e; subst e
      rw [getD_both h0] at hlj; cases hlj
    obtain ⟨X, hXe, hX⟩ : ∃ X, X = ((List.range free.length).flatMap fun t => if t = j then [] else if t = i then [] else if listed.getD t false then (match ss[t]? with | some s => s.rsL listed (g t) | none => []) else (match ss[t]? with | some s => s.pre | none => [])) ∧ (restOf ss listed g free.length i).Perm (sj.res (g j) ++ X) := by
      refine ⟨_, rfl, ?_⟩
      refine flatMap_upd _ _ j _ hjl _ ?_ ?_ ?_
      · simp
      · simp only [hne, if_false, hlj, if_true, hsj]; unfold Spc.rsL; rw [hlt0]; simp only [getD_both h0]; rfl
      · intro t ht; simp [ht]
    have hS1 : St W (X ++ (sj.res (g j) ++ M)) (fctOf ss listed g free.length ++ R) w := by
      refine hS1.perm ?_
      rw [hpre, List.nil_append, ← List.append_assoc]
      exact (hX.trans List.perm_append_comm).append_right M
    have hS' : St W (X ++ (sj.res (g j) ++ M)) (fctOf ss listed g free.length ++ (sj.fct (g j) ++ R)) w := hS1.weak (fun φ hφ => by
      rcases List.mem_append.1 hφ with h | h
      · exact List.mem_append_left _ h
      · rcases List.mem_append.1 h with h | h
        · exact List.mem_append_left _ (hsub φ h)
        · exact List.mem_append_right _ h)
    have hback : ∀ {X : List Res} {Y : List Fact} {w' : World}, St W X (Y ++ (fctOf ss listed g free.length ++ (sj.fct (g j) ++ R))) w' → St W X (Y ++ (fctOf ss listed g free.length ++ R)) w' := fun h => h.weak (fun φ hφ => by
      rcases List.mem_append.1 hφ with h | h
      · exact List.mem_append_left _ h
      · rcases List.mem_append.1 h with h | h
        · exact List.mem_append_right _ (List.mem_append_left _ h)
        · exact List.mem_append_right _ (List.mem_append_right _ (List.mem_append_right _ h)))
    have hs5 : ss[i]? = some (Spc.s5 det pval j ab fct) := by rw [hs, hsu]
    have hlt5 : (match o.dst with | some d => Nat.blt d n | none => (Spc.s5 det pval j ab fct).det.isNone) = true := by have := st.lt; rw [hsu] at this; exact this
    have hgo5 : ∀ {v : Value} {w' : World}, (Spc.s5 det pval j ab fct).val v → St W (r (g j) ++ (X ++ M)) (fct v ++ (fctOf ss listed g free.length ++ (sj.fct (g j) ++ R))) w' → K (a.put o.dst v) w' := fun {v w'} hv5 h => by
      have h := hback (Y := fct v) h
      rw [hXe] at h
      exact hK _ _ (hJ.next5 hnd hfr (by simp) hi hoi ho hs5 hv5 hlt5 hL hsj hlt0 hlj hjl hg h)
    have h3 := hop (g j) hpv X (fctOf ss listed g free.length) a' w f1' hS'
    rw [hex3]
    generalize (execOp a'.eval o).run P w = r at h3
    cases r with
    | ok x w' =>
      cases x <;> simp only [upG] at h3
      case value v => exact hgo5 h3.1 h3.2
      case skip => exact hgo5 h3.1 h3.2
      case enter f args =>
        obtain ⟨rfl, hc⟩ := h3
        refine hc.mono ?_
        rintro e w'' (⟨v, rfl, h4, h5⟩ | ⟨c, rfl, hc1, Y, hc2⟩)
        · exact hgo5 h4 h5
        · exact hab i ss[i] c hs (by rw [hsu]; exact hc1) a w'' hJ.frame hJ.defers (hc2.drop2 (fun φ hφ => List.mem_append_right _ (List.mem_append_right _ hφ)))
    | halt x w' => exact h3.elim
  · have hw : Region.wanted o (yielded (free ++ tail).toArray a.tmps) = true := by simp [Region.wanted, hgd]
    rw [if_pos hw]
    left
    unfold Oper.wp
    have dep : ∀ (j : Nat) (oj : Oper) (sj : Spc), (free ++ tail).toArray[j]? = some oj → ss[j]? = some sj → sj.det = none → depD (free ++ tail).toArray o j = true → j < free.length ∧ listed.getD j false = true ∧ sj.pval (g j) ∧ (∀ φ ∈ sj.fct (g j), φ ∈ fctOf ss listed g free.length) ∧ a'.tmps[oj.dst.getD 1000000]? = some (g j) := by
      intro j oj sj hoj hsj hdj hdep
      have hjl : j < free.length := by have := (List.getElem?_eq_some_iff.1 hsj).1; omega
      have hoj' : free[j]? = some oj := by
        have h1 : (free ++ tail)[j]? = some oj := by simpa using hoj
        rwa [List.getElem?_append_left hjl] at h1
      obtain ⟨e, he, hbi, hon⟩ := depOn_spec (depD_on hdep)
      have hlj : listed.getD j false = true := by have := hp e he hbi; rwa [hon] at this
      obtain ⟨k1, k2⟩ := hg j oj sj hoj' hsj hlj
      refine ⟨hjl, hlj, by simpa [Spc.val, hdj] using k1, ?_, ?_⟩
      · intro φ hφ
        unfold fctOf
        refine List.mem_flatMap.2 ⟨j, List.mem_range.2 hjl, ?_⟩
        rw [hlj, hsj]
        simpa [Spc.fs, hdj] using hφ
      · rw [hag (oj.dst.getD 1000000) (fun j' p e1 e2 _ => by
          have := hnd j j' _ _ hoj' e1 (depD_some hoj hdep) e2.symm
          rw [← this]; exact hlj)]
        obtain ⟨dj, hdj'⟩ := Option.isSome_iff_exists.1 (depD_some hoj hdep)
        rw [show oj.dst.getD 1000000 = dj from by simp [hdj']]
        exact k2 dj hdj'
    obtain ⟨hjl, hlj, hpv, hsub, hka⟩ := dep j oj sj hoj hsj hdj hdep
    obtain ⟨hql, hlq, hpq, hsubq, hkq⟩ := dep q oq sq hoq hsq hdq hdepq
    have f1' : FSat n ((oq.dst.getD 1000000, g q) :: (oj.dst.getD 1000000, g j) :: detL (free.take i) (ss.take i) L) a' := (f1.add hka).add hkq
    have hpre : ss[i].pre = [] := by rw [hsu]; rfl
    have hne : j ≠ i := by
      intro e; subst e
      rw [getD_both h0] at hlj; cases hlj
    obtain ⟨X, hXe, hX⟩ : ∃ X, X = ((List.range free.length).flatMap fun t => if t = j then [] else if t = i then [] else if listed.getD t false then (match ss[t]? with | some s => s.rsL listed (g t) | none => []) else (match ss[t]? with | some s => s.pre | none => [])) ∧ (restOf ss listed g free.length i).Perm (sj.res (g j) ++ X) := by
      refine ⟨_, rfl, ?_⟩
      refine flatMap_upd _ _ j _ hjl _ ?_ ?_ ?_
      · simp
      · simp only [hne, if_false, hlj, if_true, hsj]; unfold Spc.rsL; rw [hlt0]; simp only [getD_both h0]; rfl
      · intro t ht; simp [ht]
    have hS1 : St W (X ++ (sj.res (g j) ++ M)) (fctOf ss listed g free.length ++ R) w := by
      refine hS1.perm ?_
      rw [hpre, List.nil_append, ← List.append_assoc]
      exact (hX.trans List.perm_append_comm).append_right M
    have hS' : St W (X ++ (sj.res (g j) ++ M)) (fctOf ss listed g free.length ++ (sq.fct (g q) ++ (sj.fct (g j) ++ R))) w := hS1.weak (fun φ hφ => by
      rcases List.mem_append.1 hφ with h | h
      · exact List.mem_append_left _ h
      · rcases List.mem_append.1 h with h | h
        · exact List.mem_append_left _ (hsubq φ h)
        · rcases List.mem_append.1 h with h | h
          · exact List.mem_append_left _ (hsub φ h)
          · exact List.mem_append_right _ h)
    have hs6 : ss[i]? = some (Spc.s6 det pval res j) := by rw [hs, hsu]
    have hlt6 : (match o.dst with | some d => Nat.blt d n | none => (Spc.s6 det pval res j).det.isNone) = true := by have := st.lt; rw [hsu] at this; exact this
    have hgo6 : ∀ {v : Value} {w' : World}, (Spc.s6 det pval res j).val v → St W ((res v ++ r (g j)) ++ (X ++ M)) (fctOf ss listed g free.length ++ (sq.fct (g q) ++ (sj.fct (g j) ++ R))) w' → K (a.put o.dst v) w' := fun {v w'} hv6 h => by
      have h : St W ((res v ++ r (g j)) ++ (X ++ M)) (fctOf ss listed g free.length ++ R) w' := h.weak (fun φ hφ => by
        rcases List.mem_append.1 hφ with h | h
        · exact List.mem_append_left _ h
        · exact List.mem_append_right _ (List.mem_append_right _ (List.mem_append_right _ h)))
      rw [hXe] at h
      exact hK _ _ (hJ.next6 hnd hfr (by simp) hi hoi ho hs6 hv6 hlt6 hL hsj hlt0 hlj hjl hg h)
    have h3 := hop (g j) hpv (g q) hpq X (fctOf ss listed g free.length) a' w f1' hS'
    rw [hex3]
    generalize (execOp a'.eval o).run P w = r at h3
    cases r with
    | ok x w' =>
      cases x <;> simp only [upG] at h3
      case value v => exact hgo6 h3.1 h3.2
      case skip => exact hgo6 h3.1 h3.2
      case enter f args =>
        obtain ⟨rfl, hc⟩ := h3
        refine hc.mono ?_
        rintro e w'' (⟨v, rfl, h4, h5⟩ | ⟨c, rfl, hc1, Y, hc2⟩)
        · exact hgo6 h4 h5
        · cases hc1
    | halt x w' => exact h3.elim
theorem par_any {free tail : List Oper} {ss : List Spc} (hpb : parB free tail = true) (hl : ss.length = free.length) (hfr : ∀ o ∈ free, look L (o.dst.getD 1000000) = none) (hL : LateOK (free ++ tail).toArray ss) (hab : ∀ (i : Nat) (s : Spc) (c : List PanicEntry), ss[i]? = some s → s.ab = some c → Imp W n D L M R (Q (.panic c)))
    (hstep : ∀ i o s, free[i]? = some o → ss[i]? = some s → Step1 P W n M R (free ++ tail).toArray ss i o s (detL (free.take i) (ss.take i) L))
    (hfin : Fin W n D (wpList P (free ++ tail).toArray Q tail) free ss L M R) :
    ∀ (fuel : Nat) (listed : Array Bool) (a : Act) (w : World), J W n D L M R (free ++ tail).toArray free ss listed a w → unl (free ++ tail).length listed ≤ fuel → wpAny P .any (free ++ tail).toArray Q fuel listed a w := by
  simp only [parB, Bool.and_eq_true] at hpb
  obtain ⟨⟨⟨⟨hns, hfree⟩, hnd0⟩, hback⟩, htail⟩ := hpb
  have hnd := injB_sound hnd0
  have hmN : free.length ≤ (free ++ tail).length := by simp
  have hmask : ∀ listed', Closed (free ++ tail).toArray listed' → ∀ i o, free.length ≤ i → (free ++ tail).toArray[i]? = some o → (∀ e ∈ o.after, Region.binds .any e = true → listed'.getD e.on false = true) → ∀ j, j < i → listed'.getD j false = true := by
    intro listed' hc i o hi ho hp j hj
    have hlt : i < (free ++ tail).length := by simpa using (Array.getElem?_eq_some_iff.1 ho).1
    have h1 := List.all_eq_true.1 htail i (List.mem_range.2 hlt)
    simp only [Bool.or_eq_true] at h1
    rcases h1 with h1 | h1
    · have : i < free.length := by simpa using h1
      omega
    · have h2 := List.all_eq_true.1 h1 j (List.mem_range.2 hj)
      exact (masks_sound hc (free ++ tail) [] (fun j => by simp) (fun i hi => by simp at hi)).1 i o (Nat.zero_le _) ho hp j h2
  have hbk : ∀ i o, (free ++ tail).toArray[i]? = some o → ∀ e ∈ o.after, Region.binds .any e = true → e.on < i := by
    intro i o ho e he hbi
    have hlt : i < (free ++ tail).length := by simpa using (Array.getElem?_eq_some_iff.1 ho).1
    have := List.all_eq_true.1 hback i (List.mem_range.2 hlt)
    rw [show (free ++ tail)[i]? = some o from by simpa using ho] at this
    have := Array.all_eq_true_iff_forall_mem.1 this e he
    simpa [hbi] using this
  intro fuel
  induction fuel with
  | zero =>
    intro listed a w hJ hu
    have hall : ∀ i, i < free.length → listed.getD i false = true := by
      intro i hi
      cases h : listed.getD i true with
      | true =>
        have : i < listed.size := by rw [hJ.size]; simp; omega
        simp [this] at h ⊢; exact h
      | false =>
        have hsz : listed.size = (free ++ tail).length := by rw [hJ.size]; simp
        have := unl_set (N := (free ++ tail).length) (i := i) (by omega) hsz h
        omega
    obtain ⟨g, hg, hS⟩ := hJ.vals
    refine wpAny_tail (by simpa using hback) ((free ++ tail).length - free.length) free.length 0 listed a w (by simp) (Nat.le_trans (unl_ge (fun i h1 h2 => hJ.late i h1 (by simpa using h2))) hu) hJ.size hJ.closed hall (fun i h1 h2 => hJ.late i h1 h2) hmask ?_
    have hd : ((free ++ tail).toArray).toList.drop free.length = tail := by simp
    rw [hd]
    have hsame : resOf ss listed g free.length = lastOf ss g free.length := by
      refine flatMap_same _ _ _ fun j hj => ?_
      have := List.mem_range.1 hj
      rw [hall j this, if_pos rfl]
      cases hsj : ss[j]? with
      | none => rfl
      | some sj =>
        unfold Spc.rsL Spc.last
        cases hl2 : sj.late with
        | none => simp [hl2]
        | some kr =>
          obtain ⟨k, r⟩ := kr
          have hk := (hL j sj k r hsj hl2).1
          simp [hl2, hall k (by omega)]
    have hsamf : ∀ (f : Spc → Value → List Fact), ((List.range free.length).flatMap fun i => if listed.getD i false then (match ss[i]? with | some s => f s (g i) | none => []) else []) = ((List.range free.length).flatMap fun i => if (Array.replicate free.length true).getD i false then (match ss[i]? with | some s => f s (g i) | none => []) else []) := by
      intro f
      refine flatMap_same _ _ _ fun j hj => ?_
      have := List.mem_range.1 hj
      rw [hall j this]; simp [this]
    refine fin_use free ss L M R hl hfin g a w hJ.defers hJ.frame hnd (fun i o s e1 e2 => hg i o s e1 e2 (hall i (List.getElem?_eq_some_iff.1 e1).1)) ?_
    rw [hsame] at hS
    unfold fctOf at hS ⊢
    rw [hsamf] at hS
    exact hS
  | succ fuel ih =>
    intro listed a w hJ hu
    by_cases hall : ∀ i, i < free.length → listed.getD i false = true
    · obtain ⟨g, hg, hS⟩ := hJ.vals
      refine wpAny_tail (by simpa using hback) ((free ++ tail).length - free.length) free.length (fuel + 1) listed a w (by simp) (Nat.le_trans (unl_ge (fun i h1 h2 => hJ.late i h1 (by simpa using h2))) hu) hJ.size hJ.closed hall (fun i h1 h2 => hJ.late i h1 h2) hmask ?_
      have hd : ((free ++ tail).toArray).toList.drop free.length = tail := by simp
      rw [hd]
      have hsame : resOf ss listed g free.length = lastOf ss g free.length := by
        refine flatMap_same _ _ _ fun j hj => ?_
        have := List.mem_range.1 hj
        rw [hall j this, if_pos rfl]
        cases hsj : ss[j]? with
        | none => rfl
        | some sj =>
          unfold Spc.rsL Spc.last
          cases hl2 : sj.late with
          | none => simp [hl2]
          | some kr =>
            obtain ⟨k, r⟩ := kr
            have hk := (hL j sj k r hsj hl2).1
            simp [hl2, hall k (by omega)]
      have hsamf : ∀ (f : Spc → Value → List Fact), ((List.range free.length).flatMap fun i => if listed.getD i false then (match ss[i]? with | some s => f s (g i) | none => []) else []) = ((List.range free.length).flatMap fun i => if (Array.replicate free.length true).getD i false then (match ss[i]? with | some s => f s (g i) | none => []) else []) := by
        intro f
        refine flatMap_same _ _ _ fun j hj => ?_
        have := List.mem_range.1 hj
        rw [hall j this]; simp [this]
      refine fin_use free ss L M R hl hfin g a w hJ.defers hJ.frame hnd (fun i o s e1 e2 => hg i o s e1 e2 (hall i (List.getElem?_eq_some_iff.1 e1).1)) ?_
      rw [hsame] at hS
      unfold fctOf at hS ⊢
      rw [hsamf] at hS
      exact hS
    · have hex : ∃ i, i < free.length ∧ listed.getD i false = false := by
        apply Classical.byContradiction
        intro hne
        refine hall fun i hi => ?_
        cases h : listed.getD i false
        · exact absurd ⟨i, hi, h⟩ hne
        · rfl
      obtain ⟨k, ⟨hk, hkf⟩, hkm⟩ := least hex
      have hkt : listed.getD k true = false := by
        have : k < listed.size := by rw [hJ.size]; simp; omega
        simp [this] at hkf ⊢; exact hkf
      have hready : k ∈ Region.ready .any (free ++ tail).toArray listed := by
        refine mem_ready.2 ⟨hkt, (free ++ tail)[k]'(by simp; omega), by simp [List.getElem?_eq_getElem (show k < (free ++ tail).length by simp; omega)], fun e he hbi => ?_⟩
        have hlt := hbk k _ (by simp [List.getElem?_eq_getElem (show k < (free ++ tail).length by simp; omega)]) e he hbi
        cases h : listed.getD e.on false
        · exact absurd ⟨by omega, h⟩ (hkm e.on hlt)
        · rfl
      refine ⟨fun h0 => (by rw [h0] at hready; cases hready), fun i hi => ?_⟩
      obtain ⟨h0, o, hoi, hp⟩ := mem_ready.1 hi
      have him : i < free.length := by
        rcases Nat.lt_or_ge i free.length with h' | h'
        · exact h'
        · have := hmask listed hJ.closed i o h' hoi hp k (by omega)
          rw [hkf] at this; cases this
      refine par_step (by simp only [parB, Bool.and_eq_true]; exact ⟨⟨⟨⟨hns, hfree⟩, hnd0⟩, hback⟩, htail⟩) hl hfr hL hab hstep hJ hi him _ fun a' w' hJ' => ih _ _ _ hJ' ?_
      have hsz : listed.size = (free ++ tail).length := by rw [hJ.size]; simp
      have := unl_set (N := (free ++ tail).length) (i := i) (by have := (List.getElem?_eq_some_iff.1 (show (free ++ tail)[i]? = some o by simpa using hoi)).1; omega) hsz h0
      omega
theorem rep_false (m j : Nat) : (Array.replicate m false).getD j false = false := by
  rcases Nat.lt_or_ge j m with h | h
  · simp [h]
  · simp [h]
theorem preOf_range : ∀ (ss : List Spc), ((List.range ss.length).flatMap fun i => match ss[i]? with | some s => s.pre | none => []) = preOf ss
  | [] => rfl
  | s :: ss => by
    rw [List.length_cons, List.range_succ_eq_map, List.flatMap_cons, List.flatMap_map]
    have := preOf_range ss
    simp only [List.getElem?_cons_zero, List.getElem?_cons_succ]
    rw [this]
    rfl
theorem ParO.mono {ops : Array Oper} {K K' : List Spc → Prop} (hk : ∀ ss, K ss → K' ss) : ∀ {free : List Oper} {acc : List Spc} {L : Tm}, ParO P W n M R ops K free acc L → ParO P W n M R ops K' free acc L
  | [], _, _, h => hk _ h
  | _ :: _, _, _, ⟨s, h1, h2, h3⟩ => ⟨s, h1, h2, ParO.mono hk h3⟩
def noAb (ss : List Spc) : Bool := ss.all (fun s => s.ab.isNone)
def lateX (ops : Array Oper) (ss : List Spc) : Bool := lateB ops ss 0 ss && noAb ss
theorem lateX_ab {ops : Array Oper} {ss : List Spc} (h : lateX ops ss = true) : ∀ (i : Nat) (s : Spc) (c : List PanicEntry), ss[i]? = some s → s.ab = some c → False := fun i s c hs hc => by
  simp only [lateX, Bool.and_eq_true, noAb] at h
  have := List.all_eq_true.1 h.2 s (List.mem_of_getElem? hs)
  rw [hc] at this; cases this
theorem r_parG {id : Nat} {M0 : List Res} (free tail : List Oper) {l : List Oper} (hsplit : l = free ++ tail) (hm : P.follows .mixedOrders = true) (hpb : parB free tail = true) (hfr : ∀ o ∈ free, look L (o.dst.getD 1000000) = none)
    (h : ParO P W n M R l.toArray (fun ss => SelM M0 (preOf ss ++ M) ∧ lateB l.toArray ss 0 ss = true ∧ (∀ (i : Nat) (s : Spc) (c : List PanicEntry), ss[i]? = some s → s.ab = some c → Imp W n D L M R (Q (.panic c))) ∧ Fin W n D (wpList P l.toArray Q tail) free ss L M R) free [] L) : Imp W n D L M0 R ((Code.region id l.toArray true).wp P Q) := by
  subst hsplit
  intro a w h1 h2 h3
  obtain ⟨ss, hl, hK, hs⟩ := ParO.out free [] L h
  obtain ⟨hM0, hLB, hab, hK⟩ : SelM M0 (preOf ss ++ M) ∧ lateB (free ++ tail).toArray ss 0 ss = true ∧ (∀ (i : Nat) (s : Spc) (c : List PanicEntry), ss[i]? = some s → s.ab = some c → Imp W n D L M R (Q (.panic c))) ∧ Fin W n D (wpList P (free ++ tail).toArray Q tail) free ss L M R := by simpa using hK
  replace h3 := h3.sel hM0
  refine wp_region_any hm (par_any hpb hl hfr (lateOK_of hLB) hab (fun i o s e1 e2 => by have := hs i o s e1 e2; rw [List.length_nil, Nat.zero_add] at this; exact this) hK _ _ a _ ⟨by simp, ?_, ?_, h1, h2, fun _ => undef, ?_, ?_⟩ ?_)
  · intro j o _ hj
    rw [rep_false] at hj; cases hj
  · intro t _ ht
    simp at ht
    simp [ht]
  · intro i o s e1 _ hj
    have : i < free.length := (List.getElem?_eq_some_iff.1 e1).1
    have hi : i < free.length + tail.length := by omega
    simp [hi] at hj
  · have e1 : resOf ss (Array.replicate (free ++ tail).toArray.size false) (fun _ => undef) free.length = preOf ss := by
      rw [← preOf_range, hl]
      refine flatMap_same _ _ _ fun j hj => ?_
      rw [rep_false]; rfl
    have e2 : ∀ m, m ≤ free.length → ((List.range m).flatMap fun i => if (Array.replicate (free ++ tail).toArray.size false).getD i false then (match ss[i]? with | some s => s.fs undef | none => []) else []) = [] := by
      intro m _
      induction m with
      | zero => rfl
      | succ m ih =>
        rw [List.range_succ, List.flatMap_append, ih (by omega)]
        have hi : m < free.length + tail.length := by omega
        simp [hi]
    rw [e1]
    unfold fctOf
    rw [e2 _ (Nat.le_refl _)]
    exact h3.heap rfl rfl rfl rfl
  · have := unl_tail (N := (free ++ tail).length) (m := 0) (listed := Array.replicate (free ++ tail).toArray.size false) (fun i hi => by omega)
    simpa using this
section
variable {ops : Array Oper} {K : List Spc → Prop} {rest : List Oper} {acc : List Spc}
theorem r_par {id : Nat} {M0 : List Res} (free tail : List Oper) {l : List Oper} (hsplit : l = free ++ tail) (hm : P.follows .mixedOrders = true) (hpb : parB free tail = true) (hfr : ∀ o ∈ free, look L (o.dst.getD 1000000) = none)
    (h : ParO P W n M R l.toArray (fun ss => SelM M0 (preOf ss ++ M) ∧ lateX l.toArray ss = true ∧ Fin W n D (wpList P l.toArray Q tail) free ss L M R) free [] L) : Imp W n D L M0 R ((Code.region id l.toArray true).wp P Q) :=
  r_parG free tail hsplit hm hpb hfr (h.mono fun ss hs => ⟨hs.1, by have := hs.2.1; simp only [lateX, Bool.and_eq_true] at this; exact this.1, fun i s c h1 h2 => (lateX_ab hs.2.1 i s c h1 h2).elim, hs.2.2⟩)
theorem p_nil (h : K acc) : ParO P W n M R ops K [] acc L := h
theorem p_q (v : Value) (hg : o.guard = none) {d : Nat} (hdst : o.dst = some d) (hd : Nat.blt d n = true) (ho : ∀ Mx Rx, OpQ P W n L (Mx ++ M) (Rx ++ R) o v) (h : ParO P W n M R ops K rest (acc ++ [Spc.q v]) ((d, v) :: L)) : ParO P W n M R ops K (o :: rest) acc L :=
  ⟨Spc.q v, by simp [hdst, hd], .inl ⟨rfl, .inl ⟨.inl hg, OpG.of_q ho⟩⟩, by simpa [addL, Spc.q, hdst] using h⟩
end
theorem f_nil {X : Act → World → Prop} (h : Imp W n D L M R X) : Fin W n D X [] [] L M R := h
theorem f_q {X : Act → World → Prop} {os : List Oper} {ss : List Spc} {v : Value} {d : Nat} (hdst : o.dst = some d) (h : Fin W n D X os ss ((d, v) :: L) M R) : Fin W n D X (o :: os) (Spc.q v :: ss) L M R := by
  show Fin W n D X os ss (putL o.dst v L) M R
  rw [hdst]; exact h
theorem f_g {X : Act → World → Prop} {os : List Oper} {ss : List Spc} {pval : Value → Prop} {res : Value → List Res} {fct : Value → List Fact} {d : Nat} (hdst : o.dst = some d) (h : ∀ v, pval v → Fin W n D X os ss ((d, v) :: L) (res v ++ M) (fct v ++ R)) : Fin W n D X (o :: os) (Spc.g pval res fct :: ss) L M R := by
  show ∀ v, pval v → Fin W n D X os ss (putL o.dst v L) (res v ++ M) (fct v ++ R)
  rw [hdst]; exact h
end Go.G

namespace Go.G
variable {P : Program} {W : World} {n : Nat} {D : List Deferred} {L : Tm} {M : List Res} {R : List Fact} {Q : Exit → Act → World → Prop} {o : Oper}
instance HasBox.appr {b : Nat} {B : TypeId} {vs : List Value} {A M : List Res} [h : HasBox b M B vs] : HasBox b (A ++ M) B vs := ⟨List.mem_append_right _ h.mem⟩
def freshB (L : Tm) (free : List Oper) : Bool := free.all fun o => (look L (o.dst.getD 1000000)).isNone
theorem r_par' {id : Nat} {l : List Oper} (m : Nat) (hm : P.follows .mixedOrders = true) (hpb : parB (l.take m) (l.drop m) = true) (hfr : freshB L (l.take m) = true)
    (h : ParO P W n M R l.toArray (fun ss => preOf ss = [] ∧ lateX l.toArray ss = true ∧ Fin W n D (wpList P l.toArray Q (l.drop m)) (l.take m) ss L M R) (l.take m) [] L) : Imp W n D L M R ((Code.region id l.toArray true).wp P Q) :=
  r_par (l.take m) (l.drop m) (List.take_append_drop m l).symm hm hpb (fun o ho => by
    have := List.all_eq_true.1 hfr o ho
    simpa using this) (h.mono fun ss hs => by
      rw [hs.1]; exact ⟨SelM.refl, hs.2⟩)
structure FnR (P : Program) (k : FuncId) (args : List Value) (R0 : List Fact) (val : Value → Prop) (fct : Value → List Fact) : Prop where
  enter : ∀ (ag : Array Value) (w : World), (callFunc k ag).run P w = .ok (.enter k ag) w
  calls : ∀ W M Rf w, St W M (R0 ++ Rf) w → Calls P k args.toArray w fun e w' => ∃ v, e = .returned v ∧ val v ∧ St W M (fct v ++ (R0 ++ Rf)) w'
theorem FnR.use {k : FuncId} {args : List Value} {R0 : List Fact} {val : Value → Prop} {fct : Value → List Fact} (h : FnR P k args R0 val fct) (hs : SubR R R0) {w : World} (hw : St W M R w) :
    Calls P k args.toArray w fun e w' => ∃ v, e = .returned v ∧ val v ∧ St W M (fct v ++ R) w' :=
  (h.calls W M R w (hw.both hs)).mono fun _ _ ⟨v, he, hv, hs'⟩ => ⟨v, he, hv, hs'.weak (fun φ hφ => by
    rcases List.mem_append.1 hφ with h1 | h1
    · exact List.mem_append_left _ h1
    · exact List.mem_append_right _ (List.mem_append_right _ h1))⟩
theorem o_fnr {ops : Array Oper} {rest : List Oper} {k : FuncId} {args : List Value} {R0 : List Fact} {val : Value → Prop} {fct : Value → List Fact} {f : Operand} {xs : List Operand} {ts : Array TypeId} {vs : List Value} {d : Nat}
    (h : FnR P k args R0 val fct) (ho : o.op = .call { callee := .value f, args := xs.toArray, argTypes := ts }) (first captured : List Value) (hf : ev L f = some (.func (.func k) first.toArray captured.toArray))
    (hx : evs L xs = some vs) (ha : first ++ vs ++ captured = args) (hg : o.guard = none) (hdst : o.dst = some d) (hd : Nat.blt d n = true) (hs : SubR R R0)
    (hret : ∀ v, val v → Imp W n D ((d, v) :: L) M (fct v ++ R) (wpList P ops Q rest)) : Imp W n D L M R (wpList P ops Q (o :: rest)) := by
  intro a w h1 h2 h3
  refine wpList_plain hg fun K hK => ?_
  unfold Oper.wp
  rw [exec_call first captured ho (h1.ev hf) (h1.evs hx) h.enter, ha]
  refine (h.use hs h3).mono ?_
  rintro e w' ⟨v, rfl, hv, hw'⟩
  show K (a.put o.dst v) w'
  rw [hdst]
  exact hK _ _ (hret v hv _ w' (h1.put (by simpa using hd) v) (by rw [put_defers]; exact h2) hw')
theorem o_fn {ops : Array Oper} {rest : List Oper} {k : FuncId} {args : List Value} {R0 : List Fact} {val : Value → Prop} {fct : Value → List Fact} {xs : List Operand} {ts : Array TypeId} {d : Nat}
    (h : FnR P k args R0 val fct) (ho : o.op = .call { callee := .value (.func k), args := xs.toArray, argTypes := ts })
    (hx : evs L xs = some args) (hg : o.guard = none) (hdst : o.dst = some d) (hd : Nat.blt d n = true) (hs : SubR R R0)
    (hret : ∀ v, val v → Imp W n D ((d, v) :: L) M (fct v ++ R) (wpList P ops Q rest)) : Imp W n D L M R (wpList P ops Q (o :: rest)) :=
  o_fnr h ho [] [] rfl hx (by simp) hg hdst hd hs hret
def RetR (W : World) (M : List Res) (R : List Fact) (val : Value → Prop) (fct : Value → List Fact) (e : Ending) (w' : World) : Prop := ∃ v, e = .returned v ∧ val v ∧ St W M (fct v ++ R) w'
theorem FnR.intro {k : FuncId} {args : List Value} {R0 : List Fact} {val : Value → Prop} {fct : Value → List Fact} {fn : Func} {c : Code} (he : ∀ (ag : Array Value) (w : World), (callFunc k ag).run P w = .ok (.enter k ag) w)
    (hf : P.funcs[k]? = some fn) (hb : fn.body = some c) (hn : fn.ntmps = n) (ha : Nat.ble args.length n = true)
    (h : ∀ W M Rf, Imp W n [] (argsL args 0) M (R0 ++ Rf) (c.wp P (bodyPost P fn (RetR W M (R0 ++ Rf) val fct)))) : FnR P k args R0 val fct := by
  refine ⟨he, fun W M Rf w hw => calls_of_wp hf hb ?_⟩
  rw [hn]
  exact h W M Rf _ w (FSat.entry (Nat.le_of_ble_eq_true ha)) rfl hw
theorem r_retr {fn : Func} {M0 : List Res} {R0 : List Fact} {val : Value → Prop} {fct : Value → List Fact} {v : Value} (hr : Rd P W n L M R fn v) (hv : val v) (hM : SelM M M0) (hR : SubR R (fct v ++ R0)) : Imp W n [] L M R (bodyPost P fn (RetR W M0 R0 val fct) .ret) :=
  fun a w h1 h2 h3 => ⟨h2, v, hr a w h1 h3, v, rfl, hv, (h3.sel hM).weak hR⟩
def RdI (P : Program) (W : World) (n : Nat) (L : Tm) (M : List Res) (R : List Fact) (rv : ResultVar) (v : Value) : Prop := ∀ a w, FSat n L a → St W M R w →
  match rv with
  | .tmp t => a.tmps.getD t undef = v
  | .cell x t => ∃ ad, a.tmps.getD x undef = .pointer (some ad) ∧ (loadVar t ad).run P w = .ok v w
theorem RdI.tmp {t : Tmp} {v : Value} (hv : look L t = some v) : RdI P W n L M R (.tmp t) v := by
  intro a w h1 _
  have := h1.vals t v hv
  show a.tmps.getD t undef = v
  simp [this]
theorem RdI.cell1 {x : Tmp} {T B : TypeId} {b off : Nat} {vs : List Value} {v : Value} {d : TypeDesc} [hm : HasBox b M B vs] (hT : P.underlying T = some d) (hd : aggD d = false) (hx : look L x = some (pt b off)) (hv : vs[off]? = some v) : RdI P W n L M R (.cell x T) v := by
  intro a w h1 h2
  have e := h1.vals x _ hx
  have hc := h2.cell hm.mem off
  rw [hv] at hc
  have hagg := run_isAgg' (w := w) hT
  rw [hd] at hagg
  exact ⟨⟨b, off, none⟩, by simp [e, pt], by simp [loadVar, hagg, hc]⟩
theorem RdI.cellW {x : Tmp} {T B : TypeId} {b : Nat} {vs : List Value} {d : TypeDesc} {i : TypeInfo} [hm : HasBox b M B vs] (hT : P.underlying T = some d) (hd : aggD d = true) (hi : P.info? T = some i) (hx : look L x = some (pt b 0)) (hu : vs.length = i.size) : RdI P W n L M R (.cell x T) (.agg vs.toArray) := by
  intro a w h1 h2
  have e := h1.vals x _ hx
  have hagg := run_isAgg' (w := w) hT
  rw [hd] at hagg
  have hlc : (loadCells ⟨b, 0, none⟩ i.size).run P w = .ok vs.toArray w := run_loadCells_bx h2 hm.mem hu (fun j _ => by rw [Nat.zero_add])
  exact ⟨⟨b, 0, none⟩, by simp [e, pt], by simp [loadVar, hagg, run_sizeOf' hi, hlc]⟩
def readRV (a : Act) : ResultVar → Sem Value
  | .tmp t => pure (a.tmps.getD t undef)
  | .cell x t => do loadVar t (← asAddr (a.tmps.getD x undef))
theorem RdI.run {rv : ResultVar} {v : Value} (h : RdI P W n L M R rv v) {a : Act} {w : World} (g1 : FSat n L a) (g2 : St W M R w) : (readRV a rv).run P w = .ok v w := by
  have := h a w g1 g2
  cases rv with
  | tmp t => simp only [readRV, Sem.run_pure]; rw [this]
  | cell x t =>
    obtain ⟨ad, h1, h2⟩ := this
    simp only [readRV, Sem.run_bind, h1, asAddr, Sem.run_pure, Result.andThen_ok, h2]
theorem results_eq (fn : Func) (a : Act) : results fn a.tmps = (do
    let vs ← fn.results.mapM (readRV a)
    pure (if h : vs.size = 1 then vs[0] else .tuple vs)) := by
  unfold results
  congr 1
theorem Rd.one {fn : Func} {rv : ResultVar} {v : Value} (h : fn.results = #[rv]) (h1 : RdI P W n L M R rv v) : Rd P W n L M R fn v := by
  intro a w g1 g2
  rw [results_eq, h]
  simp [h1.run g1 g2]
theorem Rd.two {fn : Func} {r1 r2 : ResultVar} {v1 v2 : Value} (h : fn.results = #[r1, r2]) (h1 : RdI P W n L M R r1 v1) (h2 : RdI P W n L M R r2 v2) : Rd P W n L M R fn (.tuple #[v1, v2]) := by
  intro a w g1 g2
  rw [results_eq, h]
  simp [h1.run g1 g2, h2.run g1 g2]
theorem Rd.three {fn : Func} {r1 r2 r3 : ResultVar} {v1 v2 v3 : Value} (h : fn.results = #[r1, r2, r3]) (h1 : RdI P W n L M R r1 v1) (h2 : RdI P W n L M R r2 v2) (h3 : RdI P W n L M R r3 v3) : Rd P W n L M R fn (.tuple #[v1, v2, v3]) := by
  intro a w g1 g2
  rw [results_eq, h]
  simp [h1.run g1 g2, h2.run g1 g2, h3.run g1 g2]
end Go.G

namespace Go.G
variable {P : Program} {W : World} {n : Nat} {D : List Deferred} {L : Tm} {M : List Res} {R : List Fact} {Q : Exit → Act → World → Prop} {o : Oper}
def own (v : Value) (T : TypeId) (sz m : Nat) (cs : List Value) : Res := fun s => cs.length = m * sz ∧
  ((v = .slice none 0 0 ∧ m = 0 ∧ s = []) ∨ ∃ b cap C, v = .slice (some ⟨b, 0, none⟩) m cap ∧ m ≤ cap ∧ cap ≤ maxLen ∧ C.size = cap * sz ∧ C.toList.take (m * sz) = cs ∧ s = [(b, .cells C T (0, 0))])
theorem St.nilOwn {w : World} (h : St W M R w) (T : TypeId) (sz : Nat) : St W (own (.slice none 0 0) T sz 0 [] :: M) R w := by
  obtain ⟨s, hS, hO, hR⟩ := h.mem
  exact ⟨h.os, h.tape, h.output, s, ⟨[], s, rfl, ⟨by simp, .inl ⟨rfl, rfl, rfl⟩⟩, hS⟩, hO, hR⟩
theorem Imp.nilOwn {X : Act → World → Prop} (T : TypeId) (sz : Nat) (h : Imp W n D L (own (.slice none 0 0) T sz 0 [] :: M) R X) : Imp W n D L M R X :=
  fun a w h1 h2 h3 => h a w h1 h2 (h3.nilOwn T sz)
theorem Owns.cell {w : World} {b : Nat} {C : Array Value} {T : TypeId} {fr : Nat × Nat} (h : w.heap[b]? = some (.cells C T fr)) (j : Nat) : w.cell? ((⟨b, 0, none⟩ : Addr).add j) = C[j]? := by
  rw [add_at, Nat.zero_add, cell_of_row w b j C T fr h]
theorem run_append {w : World} {t ty e : TypeId} {i : TypeInfo} {z : Value} {sz m k c : Nat} {v : Value} {cs news : List Value} {a : Addr} {M' : List Res} (h : St W M R w) (ht : P.underlying t = some (.slice e)) (hi : P.info? e = some i) (hz : i.zero = some z) (hsz : i.size = sz) (hzs : z.cells.size = sz)
    (hnews : ∀ j u, news[j]? = some u → w.cell? (a.add j) = some u) (hl : news.length = k * sz) (h1 : ∀ u ∈ news, u.oneCell' = true) (h63 : m + k ≤ maxLen) (hby : (m + k) * i.bytes ≤ 140737488355328) (hM : Del M (own v e sz m cs) M') :
    ∃ v' w', (Builtin.append_ #[t, t] ty #[v, .slice (some a) k c]).run P w = .ok v' w' ∧ St W (own v' e sz (m + k) (cs ++ news) :: M') R w' := by
  subst hsz
  have hsmall : m + k ≤ 9223372036854775807 := by simp only [maxLen] at h63; omega
  have h0 : St W (own v e i.size m cs :: M') R w := h.perm hM.perm
  obtain ⟨s, ho, hO⟩ := h0.res (Upd.of_mem (List.mem_cons_self ..))
  obtain ⟨hlen, hcase⟩ := ho
  have hlen2 : (cs ++ news).length = (m + k) * i.size := by rw [List.length_append, hlen, hl, Nat.add_mul]
  -- a new block
  have grown : ∀ (old : Nat), old < m + k → St W (own (.slice (some ⟨w.heap.size, 0, none⟩) (m + k) (grownCap w (m + k) old e)) e i.size (m + k) (cs ++ news) :: M') R
      (w.drew.alloc (.cells (cs.toArray ++ news.toArray ++ Builtin.zeroCells z.cells (grownCap w (m + k) old e - (m + k))) e)) := by
    intro old hold
    have hge := grownCap_ge w (m + k) old e
    have hcm := grownCap_le_maxLen w (m + k) old e h63
    have hd : St W M' R w.drew := h0.drop.heap rfl rfl rfl rfl
    have hp := hd.push (.cells (cs.toArray ++ news.toArray ++ Builtin.zeroCells z.cells (grownCap w (m + k) old e - (m + k))) e)
    refine hp.replace Upd.here rfl rfl rfl ?_
    intro s' hs' hO'
    refine ⟨s', ⟨hlen2, .inr ⟨w.heap.size, grownCap w (m + k) old e, _, rfl, hge, hcm, ?_, ?_, hs'⟩⟩, hO', fun b hb => .inl hb, fun _ _ _ => rfl⟩
    · simp only [Array.size_append, List.size_toArray, size_zeroCells, hzs, hlen, hl, ← Nat.add_mul]
      congr 1; omega
    · simp only [Array.toList_append, List.append_assoc]
      rw [← List.append_assoc, ← hlen2]
      exact List.take_left
  rcases hcase with ⟨rfl, rfl, rfl⟩ | ⟨b, cap, C, rfl, hmc, hcm, hC, htake, rfl⟩
  · have hx : cs = [] := List.eq_nil_of_length_eq_zero (by simpa using hlen)
    subst hx
    by_cases hk : k = 0
    · subst hk
      have hn : news = [] := List.eq_nil_of_length_eq_zero (by simpa using hl)
      subst hn
      refine ⟨.slice none 0 0, w, ?_, by simpa using h0⟩
      simp [Builtin.append_, run_underlying ht, sizeOf, typeInfo, hi, Builtin.lenOf, Builtin.firstCells, loadCells, loadCellsFrom]
    · have hr := Go.run_append_nil (P := P) w t ty e i z ht hi hz a k c news hl hnews (by omega) (by omega) (by have hb := hby; simp only [Nat.zero_add] at hb; omega)
      have hgr := grown 0 (by omega)
      simp only [Nat.zero_add, List.nil_append, Array.empty_append] at hgr ⊢
      exact ⟨_, _, hr, hgr⟩
  · have hb : w.heap[b]? = some (.cells C e (0, 0)) := hO.at_ (b, _) (by simp)
    by_cases hroom : m + k ≤ cap
    · have hfit : m * i.size + news.length ≤ C.size := by rw [hl, hC, ← Nat.add_mul]; exact Nat.mul_le_mul_right _ hroom
      have hr := run_append_room (P := P) w t ty e i ht hi b m cap C hb a k c news hl hnews h1 hroom hfit
      refine ⟨_, _, hr, ?_⟩
      refine h0.replace Upd.here rfl rfl rfl ?_
      rintro s' ⟨_, hc'⟩ hO'
      have hs' : s' = [(b, .cells C e (0, 0))] := by
        rcases hc' with ⟨hv, _⟩ | ⟨b', cap', C', hv, _, _, _, _, hs''⟩
        · cases hv
        · simp only [Value.slice.injEq, Option.some.injEq, Addr.mk.injEq] at hv
          obtain ⟨⟨rfl, _, _⟩, _, rfl⟩ := hv
          subst hs''
          have := hO'.at_ (b, .cells C' e (0, 0)) (by simp)
          simp only at this
          rw [hb] at this
          simp only [Option.some.injEq, Obj.cells.injEq] at this
          rw [this.1]
      subst hs'
      refine ⟨[(b, .cells (C.toList.take (m * i.size) ++ news ++ C.toList.drop (m * i.size + news.length)).toArray e (0, 0))], ⟨hlen2, .inr ⟨b, cap, _, rfl, hroom, hcm, ?_, ?_, rfl⟩⟩, ⟨by simp [keys], ?_⟩, ?_, ?_⟩
      · simp only [List.size_toArray, List.length_append, List.length_take, List.length_drop, Array.length_toList]
        omega
      · rw [htake, ← hlen2]
        exact List.take_left
      · intro p hp
        simp only [List.mem_singleton] at hp
        subst hp
        exact setRow_heap w b C _ e _ hb
      · intro x hx; exact .inl (by simpa [keys] using hx)
      · intro x _ hx
        exact setRow_other w b x _ (by simpa [keys] using hx)
    · have holds : ∀ j u, cs[j]? = some u → w.cell? ((⟨b, 0, none⟩ : Addr).add j) = some u := by
        intro j u hu
        rw [Owns.cell hb]
        rw [← htake, List.getElem?_take] at hu
        split at hu
        · simpa using hu
        · cases hu
      have hr := run_append_grow (P := P) w t ty e i z ht hi hz ⟨b, 0, none⟩ m cap cs hlen holds a k c news hl hnews (by omega) (by omega) (growslice_fits (by omega) hby)
      exact ⟨_, _, hr, grown cap (by omega)⟩
theorem o_append {ops : Array Oper} {rest : List Oper} {s x : Operand} {t e B : TypeId} {i : TypeInfo} {z : Value} {sz m k c d b : Nat} {v : Value} {cs news : List Value} {M' : List Res} (ho : o.op = .call { callee := .builtin .append, args := #[s, x], argTypes := #[t, t] })
    (ht : P.underlying t = some (.slice e)) (hi : P.info? e = some i) (hz : i.zero = some z) (hsz : i.size = sz) (hzs : z.cells.size = sz) (hg : o.guard = none) (hdst : o.dst = some d) (hd : Nat.blt d n = true)
    (hs : ev L s = some v) (hx : ev L x = some (.slice (some ⟨b, 0, none⟩) k c)) [hm : HasBox b M B news] [hM : DelC M (own v e sz m cs) M'] (hl : news.length = k * sz) (h1 : oneCells news = true) (h63 : m + k ≤ maxLen) (hby : (m + k) * i.bytes ≤ 140737488355328)
    (h : ∀ v', Imp W n D ((d, v') :: L) (own v' e sz (m + k) (cs ++ news) :: M') R (wpList P ops Q rest)) : Imp W n D L M R (wpList P ops Q (o :: rest)) := by
  intro a w g1 g2 g3
  refine wpList_plain hg fun K hK => ?_
  unfold Oper.wp
  obtain ⟨v', w', hr, hw'⟩ := run_append (P := P) (ty := o.type) (c := c) g3 ht hi hz hsz hzs (fun j u hu => by rw [add_at, g3.cell hm.mem, Nat.zero_add]; exact hu) hl (oneCells_mem h1) h63 hby hM.del
  have hrun : (execOp a.eval o).run P w = .ok (.value v') w' := by
    unfold execOp
    simp only [ho, resolve, invoke, builtin, Sem.run_bind, Sem.run_pure, Result.andThen_ok, List.map_toArray, List.map_cons, List.map_nil, g1.ev hs, g1.ev hx, hr]
  rw [hrun, Oper.upon_value, hdst]
  exact hK _ _ (h v' _ w' (g1.put (by simpa using hd) v') (by rw [put_defers]; exact g2) hw')
theorem o_lit {ops : Array Oper} {rest : List Oper} {t e : TypeId} {ps : List (Nat × Operand)} {vs : List Value} {len : Nat} {i : TypeInfo} {z : Value} {cs : List Value} {d : Nat} (ho : o.op = .buildSlice t len ps.toArray) (ht : P.underlying t = some (.slice e)) (hi : P.info? e = some i) (hz : i.zero = some z)
    (hbig : Nat.ble (len * i.size) 16777216 = true) (hpos : Nat.beq (len * i.size) 0 = false) (hg : o.guard = none) (hdst : o.dst = some d) (hd : Nat.blt d n = true)
    (hx : evs L (ps.map (·.2)) = some vs) (hk : ps.map (·.1) = List.range ps.length) (hp : PlaceOK (fun k => some (k * i.size, i.size)) 0 0 vs) [hc : CatC vs cs] (hl : cs.length = len * i.size)
    (h : ∀ b, Imp W n D ((d, .slice (some ⟨b, 0, none⟩) len len) :: L) (bx b e cs :: M) R (wpList P ops Q rest)) : Imp W n D L M R (wpList P ops Q (o :: rest)) := by
  intro a w g1 g2 g3
  refine wpList_plain hg fun K hK => ?_
  unfold Oper.wp
  have hu := parts_eq g1 hx hk
  have hb1 : ¬ (2 ^ 24 < len * i.size) := by have : len * i.size ≤ 16777216 := by simpa using hbig
                                             omega
  have hb2 : ¬ (len * i.size = 0) := fun e => by rw [e] at hpos; cases hpos
  have hf := fill_all (cells := (Array.range (len * i.size)).map (fun k => z.cells[k % z.cells.size]!)) hp hc.cat (by simpa using hl)
  have hrun : (execOp a.eval o).run P w = .ok (.value (.slice (some ⟨w.heap.size, 0, none⟩) len len)) (w.alloc (.cells cs.toArray e)) := by
    simp only [execOp, ho, Instr.buildSlice, Sem.run_bind, run_underlying ht, run_sizeOf' hi, Result.andThen_ok, gt_iff_lt, hb1, hb2, if_false, run_zeroValue' hi hz, Sem.run_pure, List.map_toArray, hu, hf]
    simp [newRow, newObj, Sem.run]
  rw [hrun, Oper.upon_value, hdst]
  exact hK _ _ (h w.heap.size _ _ (g1.put (by simpa using hd) _) (by rw [put_defers]; exact g2) (g3.push _))
def adr : Value → Option Addr
  | .slice a _ _ => a
  | _ => none
def isSl (m : Nat) (v : Value) : Prop := ∃ oa cap, v = .slice oa m cap
theorem own_isSl {v : Value} {T : TypeId} {sz m : Nat} {cs : List Value} {s : Sub} (h : own v T sz m cs s) : isSl m v := by
  obtain ⟨_, ⟨rfl, rfl, _⟩ | ⟨b, cap, C, rfl, _⟩⟩ := h
  · exact ⟨_, _, rfl⟩
  · exact ⟨_, _, rfl⟩
theorem flat_at {α : Type} {enc : α → List Value} {sz : Nat} (henc : ∀ x, (enc x).length = sz) : ∀ (xs : List α) (i j : Nat) (h : i < xs.length), j < sz → (xs.flatMap enc)[i * sz + j]? = (enc xs[i])[j]?
  | [], i, j, h, _ => by simp at h
  | x :: r, 0, j, _, hj => by
    simp only [List.flatMap_cons, Nat.zero_mul, Nat.zero_add, List.getElem_cons_zero]
    rw [List.getElem?_append_left (by rw [henc]; exact hj)]
  | x :: r, i + 1, j, h, hj => by
    simp only [List.flatMap_cons, List.getElem_cons_succ]
    rw [List.getElem?_append_right (by rw [henc, Nat.add_mul]; omega), henc, show (i + 1) * sz + j - sz = i * sz + j from by rw [Nat.add_mul]; omega]
    exact flat_at henc r i j (by simpa using h) hj
theorem sealed_row {α : Type} {enc : α → List Value} {sz : Nat} (henc : ∀ x, (enc x).length = sz) {v : Value} {T : TypeId} {m : Nat} {xs : List α} {V : View} (h : sealed (own v T sz m (xs.flatMap enc)) V) (hm : m = xs.length) : rowD (adr v) sz enc xs V := by
  obtain ⟨s, ⟨_, hcase⟩, hs⟩ := h
  rcases hcase with ⟨rfl, h0, _⟩ | ⟨b, cap, C, rfl, hmc, _, hC, htake, rfl⟩
  · left
    exact List.eq_nil_of_length_eq_zero (by omega)
  · right
    refine ⟨b, 0, C, T, (0, 0), rfl, hs (b, _) (by simp), fun i j hi hj => ?_⟩
    rw [← flat_at henc xs i j hi hj, ← htake, List.getElem?_take, if_pos]
    · simp
    · have : (i + 1) * sz ≤ m * sz := Nat.mul_le_mul_right _ (by omega)
      rw [Nat.add_mul] at this; omega
def ownL {α : Type} (v : Value) (T : TypeId) (sz : Nat) (enc : α → List Value) (xs : List α) : Res := own v T sz xs.length (xs.flatMap enc)
class HasOwn {α : outParam Type} (v : Value) (M : List Res) (T : outParam TypeId) (sz : outParam Nat) (enc : outParam (α → List Value)) (xs : outParam (List α)) (M' : outParam (List Res)) : Prop where
  del : Del M (ownL v T sz enc xs) M'
instance HasOwn.head {α : Type} {v : Value} {M : List Res} {T : TypeId} {sz : Nat} {enc : α → List Value} {xs : List α} : HasOwn v (ownL v T sz enc xs :: M) T sz enc xs M := ⟨Del.here⟩
instance HasOwn.tail {α : Type} {v : Value} {r : Res} {M M' : List Res} {T : TypeId} {sz : Nat} {enc : α → List Value} {xs : List α} [h : HasOwn v M T sz enc xs M'] : HasOwn v (r :: M) T sz enc xs (r :: M') := ⟨Del.there h.del⟩
section
variable {α : Type} {enc : α → List Value} {sz : Nat} {T : TypeId} {v : Value} {xs : List α} {M' : List Res}
theorem Imp.nilL {X : Act → World → Prop} (T : TypeId) (sz : Nat) (enc : α → List Value) (h : Imp W n D L (ownL (.slice none 0 0) T sz enc [] :: M) R X) : Imp W n D L M R X := Imp.nilOwn T sz h
theorem Imp.own_to {X : Act → World → Prop} (v : Value) [hd : HasOwn v M T sz enc xs M'] (ys : List α) (e : xs = ys) (h : Imp W n D L (ownL v T sz enc ys :: M') R X) : Imp W n D L M R X := by
  subst e
  exact fun a w h1 h2 h3 => h a w h1 h2 (h3.perm hd.del.perm)
theorem Imp.own_is {X : Act → World → Prop} (v : Value) [hd : HasOwn v M T sz enc xs M'] (h : isSl xs.length v → Imp W n D L M R X) : Imp W n D L M R X := by
  intro a w h1 h2 h3
  have h4 : St W (ownL v T sz enc xs :: M') R w := h3.perm hd.del.perm
  obtain ⟨s, hs, _⟩ := h4.res (Upd.of_mem (List.mem_cons_self ..))
  exact h (own_isSl hs) a w h1 h2 h3
theorem Imp.settleL {X : Act → World → Prop} (v : Value) [hd : HasOwn v M T sz enc xs M'] (henc : ∀ x, (enc x).length = sz) (h : isSl xs.length v → Imp W n D L M' (rowD (adr v) sz enc xs :: R) X) : Imp W n D L M R X := by
  intro a w h1 h2 h3
  have h4 : St W (own v T sz xs.length (xs.flatMap enc) :: M') R w := h3.perm hd.del.perm
  obtain ⟨s, hs, _⟩ := h4.res (Upd.of_mem (List.mem_cons_self ..))
  refine h (own_isSl hs) a w h1 h2 ?_
  refine (h4.seal_.derive (ψ := rowD (adr v) sz enc xs) fun V hV => sealed_row henc (hV (sealed (own v T sz xs.length (xs.flatMap enc))) (by simp)) rfl).weak ?_
  intro φ hφ
  rcases List.mem_cons.1 hφ with rfl | hφ
  · simp
  · simp [hφ]
theorem o_app1 {ops : Array Oper} {rest : List Oper} {s x : Operand} {t e B : TypeId} {i : TypeInfo} {z : Value} {c d b : Nat} {news : List Value} [hM : HasOwn v M e sz enc xs M'] [hm : HasBox b M B news] (y : α) (ho : o.op = .call { callee := .builtin .append, args := #[s, x], argTypes := #[t, t] })
    (ht : P.underlying t = some (.slice e)) (hi : P.info? e = some i) (hz : i.zero = some z) (hsz : i.size = sz) (hzs : z.cells.size = sz) (hg : o.guard = none) (hdst : o.dst = some d) (hd : Nat.blt d n = true)
    (hs : ev L s = some v) (hx : ev L x = some (.slice (some ⟨b, 0, none⟩) 1 c)) (hy : news = enc y) (hl : news.length = sz) (h1 : oneCells news = true) (hbd : xs.length ≤ 1000000 ∧ i.bytes ≤ 1000000)
    (h : ∀ v', Imp W n D ((d, v') :: L) (ownL v' e sz enc (xs ++ [y]) :: M') R (wpList P ops Q rest)) : Imp W n D L M R (wpList P ops Q (o :: rest)) := by
  subst hy
  haveI : DelC M (own v e sz xs.length (xs.flatMap enc)) M' := ⟨hM.del⟩
  refine o_append (k := 1) (m := xs.length) (cs := xs.flatMap enc) (news := enc y) (M' := M') ho ht hi hz hsz hzs hg hdst hd hs hx (by simpa using hl) h1 (by simp only [maxLen]; omega) ?_ ?_
  · have : (xs.length + 1) * i.bytes ≤ 1000001 * 1000000 := Nat.mul_le_mul (by omega) hbd.2
    omega
  · intro v'
    have := h v'
    unfold ownL at this
    simpa using this
end
end Go.G

namespace Go.G
variable {P : Program} {W : World} {n : Nat} {D : List Deferred} {L : Tm} {M : List Res} {R : List Fact} {Q : Exit → Act → World → Prop} {o : Oper}
theorem r_scope {c : Code} (h : Imp W n D L M R (c.wp P (Exit.noGoto Q))) : Imp W n D L M R ((Code.scope c).wp P Q) := h.mono fun _ _ => wp_scope_straight
theorem r_sc_normal (h : Imp W n D L M R (Q .normal)) : Imp W n D L M R (Exit.noGoto Q .normal) := h
theorem r_sc_ret (h : Imp W n D L M R (Q .ret)) : Imp W n D L M R (Exit.noGoto Q .ret) := h
def ptrD (d : TypeDesc) : Bool := match d with | .pointer _ => true | _ => false
structure HasM (P : Program) (t : TypeId) (name : String) (f : FuncId) : Prop where
  ok : ∃ (i : TypeInfo) (m : Method) (d : TypeDesc), P.info? t = some i ∧ i.methods.find? (·.name == name) = some m ∧ m.path.toList = [] ∧ m.func = some (f, false) ∧ P.underlying t = some d ∧ ptrD d = false
def hasM (i : TypeInfo) (name : String) (f : FuncId) : Bool :=
  match i.methods.find? (·.name == name) with
  | some m => m.path.toList.isEmpty && m.func == some (f, false)
  | none => false
theorem HasM.mk' {t : TypeId} {name : String} {f : FuncId} {i : TypeInfo} {d : TypeDesc} (h1 : P.info? t = some i) (h2 : hasM i name f = true) (h5 : P.underlying t = some d) (h6 : ptrD d = false) : HasM P t name f := by
  unfold hasM at h2
  split at h2
  · rename_i m hm
    simp only [Bool.and_eq_true, beq_iff_eq, List.isEmpty_iff] at h2
    exact ⟨⟨i, m, d, h1, hm, h2.1, h2.2, h5, h6⟩⟩
  · cases h2
theorem run_method_direct {t : TypeId} {name : String} {f : FuncId} (h : HasM P t name f) (k : Nat) (v : Value) (w : World) : (method (k + 1) t v name).run P w = .ok (f, v) w := by
  obtain ⟨i, m, d, h1, h2, h3, h4, h5, h6⟩ := h.ok
  unfold method
  have hti := run_typeInfo (P := P) (w := w) h1
  simp only [Sem.run_bind, hti, Result.andThen_ok, h2, h3, follow, Sem.run_pure, h4, receiverAt, run_underlying h5]
  cases d <;> first | (simp [ptrD] at h6; done) | (show ((Sem.run P (pure v) w).andThen _) = _; simp [Sem.run_pure, Result.andThen_ok])
theorem run_program (w : World) : Sem.run P program w = .ok P w := rfl
theorem exec_invoke {a : Act} {w : World} {x : Operand} {xs : List Operand} {ts : Array TypeId} {vs : List Value} {t : TypeId} {v : Value} {name : String} {k : FuncId} (hm : HasM P t name k)
    (ho : o.op = .call { callee := .invoke x name, args := xs.toArray, argTypes := ts }) (hr : a.eval x = .iface t v) (hx : xs.map a.eval = vs)
    (he : ∀ (ag : Array Value) (w : World), (callFunc k ag).run P w = .ok (.enter k ag) w) : (execOp a.eval o).run P w = .ok (.enter k (v :: vs).toArray) w := by
  unfold execOp
  have : ∀ j, Sem.run P (method (j + Made.depth) t v name) w = .ok (k, v) w := fun j => by
    obtain ⟨m, hmm⟩ : ∃ m, j + Made.depth = m + 1 := ⟨j + Made.depth - 1, by simp [Made.depth]⟩
    rw [hmm]; exact run_method_direct hm m v w
  have hargs : (#[Value.iface t v] ++ vs.toArray).extract 1 (#[Value.iface t v] ++ vs.toArray).size = vs.toArray := by simp
  simp only [ho, resolve, hr, List.map_toArray, hx, Sem.run_bind, Sem.run_pure, Result.andThen_ok, invoke]
  simp [callMethod, Sem.run_bind, run_program, this, Result.andThen_ok, he]
theorem OpQ.invoke {k : FuncId} {args : List Value} {R0 : List Fact} {u v : Value} {x : Operand} {xs : List Operand} {ts : Array TypeId} {t : TypeId} {name : String} {vs : List Value}
    (h : FnV P k args R0 u) (hm : HasM P t name k) (ho : o.op = .call { callee := .invoke x name, args := xs.toArray, argTypes := ts }) (hr : ev L x = some (.iface t v))
    (hx : evs L xs = some vs) (ha : v :: vs = args) (hs : SubR R R0) : OpQ P W n L M R o u := by
  intro a w h1 h2
  unfold Oper.quietAt
  rw [exec_invoke hm ho (h1.ev hr) (h1.evs hx) h.enter, ha]
  exact ⟨rfl, h.use hs h2⟩
structure FnX (P : Program) (k : FuncId) (args : List Value) (R0 : List Fact) (pv : Value) : Prop where
  enter : ∀ (ag : Array Value) (w : World), (callFunc k ag).run P w = .ok (.enter k ag) w
  calls : ∀ W M Rf w, St W M (R0 ++ Rf) w → Calls P k args.toArray w fun e w' => e = .panicked [{ v := pv, recovered := false }] ∧ St W M (R0 ++ Rf) w'
def RetX (W : World) (M : List Res) (R : List Fact) (pv : Value) (e : Ending) (w' : World) : Prop := e = .panicked [{ v := pv, recovered := false }] ∧ St W M R w'
theorem FnX.intro {k : FuncId} {args : List Value} {R0 : List Fact} {v : Value} {fn : Func} {c : Code} (he : ∀ (ag : Array Value) (w : World), (callFunc k ag).run P w = .ok (.enter k ag) w)
    (hf : P.funcs[k]? = some fn) (hb : fn.body = some c) (hn : fn.ntmps = n) (ha : Nat.ble args.length n = true)
    (h : ∀ W M Rf, Imp W n [] (argsL args 0) M (R0 ++ Rf) (c.wp P (bodyPost P fn (RetX W M (R0 ++ Rf) v)))) : FnX P k args R0 v := by
  refine ⟨he, fun W M Rf w hw => calls_of_wp hf hb ?_⟩
  rw [hn]
  exact h W M Rf _ w (FSat.entry (Nat.le_of_ble_eq_true ha)) rfl hw
end Go.G

namespace Go.G
variable {P : Program} {W : World} {n : Nat} {D : List Deferred} {L : Tm} {M : List Res} {R : List Fact} {Q : Exit → Act → World → Prop} {o : Oper}
theorem run_eqNil2 {T : TypeId} {ms : Array (String × TypeId)} (hT : P.underlying T = some (.interface ms)) (w : World) : (Op.equal T .nilIface .nilIface).run P w = .ok true w := by
  show (Op.equalIn (9999 + 1) T .nilIface .nilIface).run P w = _
  unfold Op.equalIn
  simp only [Sem.run_bind, run_underlying hT, Result.andThen_ok, Sem.run_pure]
theorem FnV.introD {k : FuncId} {args : List Value} {R0 : List Fact} {v : Value} {fn : Func} {c : Code} (he : ∀ (ag : Array Value) (w : World), (callFunc k ag).run P w = .ok (.enter k ag) w)
    (hf : P.funcs[k]? = some fn) (hb : fn.body = some c) (hn : fn.ntmps = n) (ha : Nat.ble args.length n = true)
    (h : ∀ W M Rf, Imp W n [] (argsL args 0) M (R0 ++ Rf) (c.wp P (bodyPostD P fn (RetV W M (R0 ++ Rf) v)))) : FnV P k args R0 v := by
  refine ⟨he, fun W M Rf w hw => calls_of_wp_defers hf hb ?_⟩
  rw [hn]
  exact h W M Rf _ w (FSat.entry (Nat.le_of_ble_eq_true ha)) rfl hw
theorem rec_ret {c₀ : Frame} {cs : List Frame} (h : c₀.mode = .returning) : recoverD (c₀ :: cs) = none := by simp [recoverD, h]
end Go.G

namespace Go.G
variable {P : Program} {W : World} {n m : Nat} {D : List Deferred} {L : Tm} {M : List Res} {R : List Fact} {Q : Exit → Act → World → Prop} {o : Oper} {F : Fence}
structure WideF (P : Program) (F : Fence) : Prop where
  fn : ∀ f, F.fn f
  depth : F.depth = none
  calls : ∀ {n : Nat} {f : FuncId} {args : Array Value} {w : World} {R : Ending → World → Prop}, Calls P f args w R → CallsIn F n P f args w R
  rows : ∀ {n : Nat} {row : String} {args : Array Value} {w : World} {R : Value → World → Prop}, Rows P row args w R → RowsIn F n P row args w R
theorem wideF : WideF P Fence.wide := ⟨fun _ => trivial, rfl, fun h => callsIn_wide.2 h, fun h c cs _ => let ⟨v, w', r, s⟩ := h c cs; ⟨v, w', r, stepsIn_wide.2 s⟩⟩
theorem wideR {l : Nat} : WideF P (Fence.wide.inRound l) := ⟨fun _ => trivial, rfl, fun h => callsIn_wide.2 h, fun h c cs _ => let ⟨v, w', r, s⟩ := h c cs; ⟨v, w', r, stepsIn_wide.2 s⟩⟩
def noDefer : Op → Bool
  | .defer _ => false
  | _ => true
theorem opIn_of_wp (hF : WideF P F) {a : Act} {w : World} {next : Act → World → Prop} (hnd : noDefer o.op = true) (h : o.wp P a w next Q) : o.wpIn F m P a w next Q := by
  refine ⟨fun f _ => hF.fn f, ?_⟩
  rw [Oper.semAt_eq _ _ _ (fun c e => by rw [e] at hnd; cases hnd)]
  unfold Oper.wp at h
  generalize (execOp a.eval o).run P w = r at h
  unfold Oper.upon at h
  unfold Oper.uponIn
  have hd : F.depth.isSome = true → 1 ≤ m := by rw [hF.depth]; simp
  split at h
  · exact h
  · exact h
  · exact h
  · exact ⟨hd, hF.calls h⟩
  · exact ⟨hd, hF.rows h⟩
  · exact h
  · exact h.elim
theorem oi_lift {ops : Array Oper} {rest : List Oper} (hF : WideF P F) (hnd : noDefer o.op = true) (hno : ∀ a w, Q .outgrown a w → False)
    (h : Imp W n D L M R (wpList P ops (Exit.then (wpListIn F m P ops Q rest) Q) [o])) : Imp W n D L M R (wpListIn F m P ops Q (o :: rest)) := by
  intro a w h1 h2 h3
  have := h a w h1 h2 h3
  unfold wpList at this
  unfold wpListIn
  split
  · rename_i hw
    rw [if_pos hw] at this
    rcases this with h' | ⟨_, a0, w0, h'⟩
    · have h'' := opIn_of_wp (m := m) (F := F) hF hnd h'
      refine ⟨h''.1, ?_⟩
      have := h''.2
      unfold Oper.uponIn at this ⊢
      split at this
      · exact this
      · exact this
      · exact this
      · refine ⟨this.1, this.2.mono ?_⟩
        rintro e w' he
        cases e with
        | returned v => exact he
        | panicked c => exact he
        | outgrown => obtain ⟨a1, w1, h1⟩ := he; exact (hno _ _ h1).elim
      · exact this
      · refine ⟨this.1, this.2.mono ?_⟩
        rintro e w' he
        cases e with
        | returned v => exact he
        | panicked c => exact he
        | outgrown => obtain ⟨a1, w1, h1⟩ := he; exact (hno _ _ h1).elim
      · exact this
      · exact this.elim
    · exact (hno _ _ h').elim
  · rename_i hw
    rw [if_neg hw] at this
    exact ⟨fun f _ => hF.fn f, this⟩
theorem oi_nil {ops : Array Oper} (h : Imp W n D L M R (Q .normal)) : Imp W n D L M R (wpListIn F m P ops Q []) := h
theorem ri_seq {x y : Code} (h : Imp W n D L M R (x.wpIn F m P (Exit.then (y.wpIn F m P Q) Q))) : Imp W n D L M R ((Code.seq x y).wpIn F m P Q) := h.mono fun _ _ => wpIn_seq
theorem ri_skip (h : Imp W n D L M R (Q .normal)) : Imp W n D L M R (Code.skip.wpIn F m P Q) := h.mono fun _ _ => wpIn_skip
theorem ri_exit {id : Nat} (h : Imp W n D L M R (Q (.exit id))) : Imp W n D L M R ((Code.exit id).wpIn F m P Q) := h.mono fun _ _ => wpIn_exit
theorem ri_block {id : Nat} {c : Code} (h : Imp W n D L M R (c.wpIn F m P (Exit.inBlock id Q))) : Imp W n D L M R ((Code.block id c).wpIn F m P Q) := h.mono fun _ _ => wpIn_block
theorem ri_cond {c : Operand} {x y : Code} {t : Bool} (hc : ev L c = some (.bool t)) (ht : t = true → Imp W n D L M R (x.wpIn F m P Q)) (hf : t = false → Imp W n D L M R (y.wpIn F m P Q)) : Imp W n D L M R ((Code.cond c x y).wpIn F m P Q) := by
  intro a w h1 h2 h3
  cases t with
  | true => exact wpIn_cond (h1.ev hc) (ht rfl a w h1 h2 h3)
  | false => exact wpIn_cond (h1.ev hc) (hf rfl a w h1 h2 h3)
theorem ri_condd {c : Operand} {x y : Code} {p : Prop} [Decidable p] (hc : ev L c = some (.bool (decide p))) (ht : p → Imp W n D L M R (x.wpIn F m P Q)) (hf : ¬ p → Imp W n D L M R (y.wpIn F m P Q)) : Imp W n D L M R ((Code.cond c x y).wpIn F m P Q) :=
  ri_cond hc (fun h => ht (of_decide_eq_true h)) (fun h => hf (of_decide_eq_false h))
theorem ri_region {id : Nat} {l : List Oper} (h : Imp W n D L M R (wpListIn F m P l.toArray Q l)) : Imp W n D L M R ((Code.region id l.toArray false).wpIn F m P Q) := h.mono fun _ _ => wpIn_region_lit
theorem r_region_in {id : Nat} {l : List Oper} (h : Imp W n D L M R (wpListIn Fence.wide 0 P l.toArray Q l)) : Imp W n D L M R ((Code.region id l.toArray false).wp P Q) := h.mono fun _ _ h => wpIn_wide.1 (wpIn_region_lit h)
def exR {α : Type} (N : α → List Res) : Res := fun s => ∃ x, Sep (N x) s
theorem St.pk {w : World} {α : Type} {N : α → List Res} (x : α) (h : St W (N x ++ M) R w) : St W (exR N :: M) R w := by
  obtain ⟨s, hS, hO, hR⟩ := h.mem
  obtain ⟨s1, s2, rfl, h1, h2⟩ := Sep.append.1 hS
  exact ⟨h.os, h.tape, h.output, s1 ++ s2, ⟨s1, s2, rfl, ⟨x, h1⟩, h2⟩, hO, hR⟩
theorem St.unpk {w : World} {α : Type} {N : α → List Res} (h : St W (exR N :: M) R w) : ∃ x, St W (N x ++ M) R w := by
  obtain ⟨s, ⟨s1, s2, rfl, ⟨x, h1⟩, h2⟩, hO, hR⟩ := h.mem
  exact ⟨x, h.os, h.tape, h.output, s1 ++ s2, Sep.append.2 ⟨s1, s2, rfl, h1, h2⟩, hO, hR⟩
theorem Imp.unpk {α : Type} {N : α → List Res} {X : Act → World → Prop} (h : ∀ x, Imp W n D L (N x ++ M) R X) : Imp W n D L (exR N :: M) R X := by
  intro a w h1 h2 h3
  obtain ⟨x, h4⟩ := h3.unpk
  exact h x a w h1 h2 h4
theorem St.putBl {w : World} {M' : List Res} {l : Nat} {x : Obj} (y : Obj) (h : St W M R w) (hu : Upd M (G.bl l x) (G.bl l y) M') : St W M' R (w.putObj l y) := by
  refine h.replace hu rfl rfl rfl ?_
  intro s hs hO
  have hs' : s = [(l, x)] := hs
  subst hs'
  have hl := hO.at_ (l, x) (by simp)
  have hlt : l < w.heap.size := (Array.getElem?_eq_some_iff.1 hl).1
  refine ⟨[(l, y)], rfl, ⟨by simp [keys], ?_⟩, ?_, ?_⟩
  · intro p hp
    have : p = (l, y) := by simpa using hp
    subst this
    exact World.putObj_heap_same hlt
  · intro b hb; exact .inl (by simpa [keys] using hb)
  · intro b _ hb
    exact World.putObj_heap_other (by intro e; subst e; exact hb (by simp [keys]))
def Yields {α : Type} (P : Program) (W : World) (l : Nat) (enc : α → List Value) (xs : List α) (J Jx : Nat → Res) (Rf : List Fact) : Prop :=
  ∀ i x, xs[i]? = some x → ∀ Mi Ri w, St W (J i :: Mi) (Ri ++ Rf) w → YieldAt Fence.wide 0 P l (enc x).toArray w fun e w' => (e = .returned (.bool true) ∧ St W (J (i + 1) :: Mi) (Ri ++ Rf) w') ∨ (e = .returned (.bool false) ∧ St W (Jx (i + 1) :: Mi) (Ri ++ Rf) w')
def RetSeq (W : World) (J Jx : Nat → Res) (N : Nat) (R : List Fact) (e : Ending) (w' : World) : Prop := (∃ v, e = .returned v) ∧ (St W [J N] R w' ∨ ∃ i, i ≤ N ∧ 1 ≤ i ∧ St W [Jx i] R w')
structure IsSeq {α : Type} (P : Program) (g : FuncId) (lb : List Value) (Rs : List Fact) (enc : α → List Value) (xs : List α) : Prop where
  enter : ∀ (ag : Array Value) (w : World), (callFunc g ag).run P w = .ok (.enter g ag) w
  calls : ∀ (l : Nat) (J Jx : Nat → Res) (W : World) (Rf : List Fact) (w : World), Yields P W l enc xs J Jx Rf → St W [J 0] (Rs ++ Rf) w → Calls P g (.func (.yield l) #[] #[] :: lb).toArray w (RetSeq W J Jx xs.length (Rs ++ Rf))
theorem IsSeq.intro {α : Type} {g : FuncId} {lb : List Value} {Rs : List Fact} {enc : α → List Value} {xs : List α} {fn : Func} {c : Code} (he : ∀ (ag : Array Value) (w : World), (callFunc g ag).run P w = .ok (.enter g ag) w)
    (hf : P.funcs[g]? = some fn) (hb : fn.body = some c) (hn : fn.ntmps = n) (ha : Nat.ble (lb.length + 1) n = true)
    (h : ∀ l J Jx W Rf, Yields P W l enc xs J Jx Rf → Imp W n [] (argsL (.func (.yield l) #[] #[] :: lb) 0) [J 0] (Rs ++ Rf) (c.wp P (bodyPost P fn (RetSeq W J Jx xs.length (Rs ++ Rf))))) : IsSeq P g lb Rs enc xs := by
  refine ⟨he, fun l J Jx W Rf w hY hw => calls_of_wp hf hb ?_⟩
  rw [hn]
  exact h l J Jx W Rf hY _ w (FSat.entry (by simpa using Nat.le_of_ble_eq_true ha)) rfl hw
structure Beg (P : Program) (l : Nat) (rdy bsy : Res) : Prop where
  run : ∀ W M M' R w, St W M R w → Del M rdy M' → ∃ w', (Instr.beginRound l).run P w = .ok () w' ∧ St W (bsy :: M') R w'
theorem r_begin {l : Nat} {rdy bsy : Res} {X : Act → World → Prop} {M' : List Res} (hb : Beg P l rdy bsy) [hM : DelC M rdy M'] (h : Imp W n D L (bsy :: M') R X) :
    Imp W n D L M R (fun a w => ∃ w₂, (Instr.beginRound l).run P w = .ok () w₂ ∧ X a w₂) := by
  intro a w h1 h2 h3
  obtain ⟨w', hr, h4⟩ := hb.run W M M' R w h3 hM.del
  exact ⟨w', hr, h a w' h1 h2 h4⟩
def putAll : List Tmp → List Value → Tm → Tm
  | p :: ps, v :: vs, L => putAll ps vs ((p, v) :: L)
  | _, _, L => L
theorem FSat.putAll : ∀ (ps : List Tmp) (vs : List Value) {L : Tm} {t : Array Value}, ps.all (fun p => Nat.blt p n) = true → FSat n L { tmps := t, defers := [] } →
    FSat n (G.putAll ps vs L) { tmps := (ps.zip vs).foldl (fun t (p, v) => t.setIfInBounds p v) t, defers := [] }
  | [], _, _, _, _, h => by simpa [G.putAll] using h
  | _ :: _, [], _, _, _, h => by simpa [G.putAll] using h
  | p :: ps, v :: vs, L, t, hp, h => by
    simp only [List.all_cons, Bool.and_eq_true] at hp
    simp only [List.zip_cons_cons, List.foldl_cons, G.putAll]
    exact FSat.putAll ps vs hp.2 (h.put (by simpa using hp.1) v)
def mark (db : Nat) : Deferred := { target := .collected db, args := #[] }
theorem Imp.unpk2 {α : Type} {r1 r2 : α → Res} {X : Act → World → Prop} (h : ∀ x, Imp W n D L (r1 x :: r2 x :: M) R X) : Imp W n D L (exR (fun x => [r1 x, r2 x]) :: M) R X := Imp.unpk h
theorem FnV.introM {k : FuncId} {args : List Value} {R0 : List Fact} {v : Value} {fn : Func} {c : Code} (he : ∀ (ag : Array Value) (w : World), (callFunc k ag).run P w = .ok (.enter k ag) w)
    (hf : P.funcs[k]? = some fn) (hb : fn.body = some c) (hn : fn.ntmps = n) (ha : Nat.ble args.length n = true)
    (h : ∀ W M Rf, Imp W n [] (argsL args 0) M (R0 ++ Rf) (c.wp P (bodyPostM Fence.wide 0 P fn (RetV W M (R0 ++ Rf) v)))) : FnV P k args R0 v := by
  refine ⟨he, fun W M Rf w hw => (callsIn_wide (n := 0)).1 (callsIn_of_wp_marks hf hb trivial (wpIn_wide.2 ?_))⟩
  rw [hn]
  exact h W M Rf _ w (FSat.entry (Nat.le_of_ble_eq_true ha)) rfl hw
theorem leaves_mark {db : Nat} {fn : Func} {v : Value} {Rr : Ending → World → Prop} {M1 : List Res} [hM : DelC M (bl db (.deferred (some []))) M1] (hr : Rd P W n L M1 R fn v) (hp : ∀ w', St W M1 R w' → Rr (.returned v) w') :
    Imp W n [mark db] L M R (bodyPostM Fence.wide 0 P fn Rr .ret) := by
  intro a w h1 h2 h3
  show LeavesInM Fence.wide 0 P fn a.tmps Rr a.defers .returning w
  rw [h2]
  have h4 := h3.perm hM.del.perm
  have hl := h4.bl (b := db) (o := .deferred (some [])) (by simp)
  have h5 := (h4.putBl (.deferred none) Upd.here).drop
  exact ⟨by simp, .inl ⟨db, _, rfl, run_takeDeferred hl, v, hr a _ h1 h5, hp _ h5⟩⟩
end Go.G

namespace Go.G
variable {P : Program} {W : World} {n : Nat} {D : List Deferred} {L : Tm} {M : List Res} {R : List Fact} {Q : Exit → Act → World → Prop} {o : Oper}
instance (priority := 90) SubRC.appl {A B R' : List Fact} [h : SubRC A R'] : SubRC (A ++ B) R' := ⟨fun φ hφ => List.mem_append_left _ (h.sub φ hφ)⟩
instance (priority := 80) SubRC.appr {A B R' : List Fact} [h : SubRC B R'] : SubRC (A ++ B) R' := ⟨fun φ hφ => List.mem_append_right _ (h.sub φ hφ)⟩
instance (priority := 100) SubRC.tailv {φ : Fact} {R R' : List Fact} [h : SubRC R R'] : SubRC (φ :: R) R' := ⟨fun ψ hψ => List.mem_cons_of_mem _ (h.sub ψ hψ)⟩
def boxF (b : Nat) (T : TypeId) (vs : List Value) : Fact := fun V => V b = some (.cells vs.toArray T (0, 0))
class HasBoxF (b : Nat) (R : List Fact) (T : outParam TypeId) (vs : outParam (List Value)) : Prop where
  mem : boxF b T vs ∈ R
instance HasBoxF.head {b : Nat} {T : TypeId} {vs : List Value} {R : List Fact} : HasBoxF b (boxF b T vs :: R) T vs := ⟨by simp⟩
instance HasBoxF.tail {b : Nat} {T : TypeId} {vs : List Value} {φ : Fact} {R : List Fact} [h : HasBoxF b R T vs] : HasBoxF b (φ :: R) T vs := ⟨List.mem_cons_of_mem _ h.mem⟩
instance HasBoxF.appl {b : Nat} {T : TypeId} {vs : List Value} {A B : List Fact} [h : HasBoxF b A T vs] : HasBoxF b (A ++ B) T vs := ⟨List.mem_append_left _ h.mem⟩
instance HasBoxF.appr {b : Nat} {T : TypeId} {vs : List Value} {A B : List Fact} [h : HasBoxF b B T vs] : HasBoxF b (A ++ B) T vs := ⟨List.mem_append_right _ h.mem⟩
class DelBox (b : Nat) (M : List Res) (T : outParam TypeId) (vs : outParam (List Value)) (M' : outParam (List Res)) : Prop where
  del : Del M (bx b T vs) M'
instance DelBox.head {b : Nat} {T : TypeId} {vs : List Value} {M : List Res} : DelBox b (bx b T vs :: M) T vs M := ⟨Del.here⟩
instance DelBox.tail {b : Nat} {T : TypeId} {vs : List Value} {r : Res} {M M' : List Res} [h : DelBox b M T vs M'] : DelBox b (r :: M) T vs (r :: M') := ⟨Del.there h.del⟩
theorem Imp.box_to {T : TypeId} {vs : List Value} {M' : List Res} {X : Act → World → Prop} (b : Nat) [hd : DelBox b M T vs M'] (us : List Value) (e : vs = us) (h : Imp W n D L (bx b T us :: M') R X) : Imp W n D L M R X := by
  subst e
  exact fun a w h1 h2 h3 => h a w h1 h2 (h3.perm hd.del.perm)
theorem Imp.sealB {T : TypeId} {vs : List Value} {M' : List Res} {X : Act → World → Prop} (b : Nat) [hd : DelBox b M T vs M'] (h : Imp W n D L M' (boxF b T vs :: R) X) : Imp W n D L M R X := by
  intro a w h1 h2 h3
  have h4 : St W (bx b T vs :: M') R w := h3.perm hd.del.perm
  refine h a w h1 h2 ?_
  refine (h4.seal_.derive (ψ := boxF b T vs) fun V hV => ?_).weak ?_
  · obtain ⟨s, hs, hp⟩ := hV (sealed (bx b T vs)) (by simp)
    have hs' : s = [(b, .cells vs.toArray T (0, 0))] := hs
    subst hs'
    exact hp (b, .cells vs.toArray T (0, 0)) (by simp)
  · intro φ hφ
    rcases List.mem_cons.1 hφ with rfl | hφ
    · simp
    · simp [hφ]
theorem St.cellF {w : World} {b : Nat} {T : TypeId} {vs : List Value} (h : St W M R w) (hm : boxF b T vs ∈ R) (i : Nat) : w.cell? ⟨b, i, none⟩ = vs[i]? := by
  rw [cell_of_row w b i _ T (0, 0) (h.fact hm)]; simp
theorem v_lf1 {T : TypeId} {x : Operand} {b off : Nat} {B : TypeId} {vs : List Value} {v : Value} {d : TypeDesc} [hm : HasBoxF b R B vs] (ho : o.op = .load T x) (hT : P.underlying T = some d) (hd : aggD d = false)
    (hx : ev L x = some (pt b off)) (hv : vs[off]? = some v) : OpQ P W n L M R o v :=
  OpQ.of_value fun f w h1 h2 => by
    have hc := h2.cellF hm.mem off
    rw [hv] at hc
    have hagg := run_isAgg' (w := w) hT
    rw [hd] at hagg
    simp [execOp, ho, h1.ev hx, Instr.loadAt, pt, Instr.sureAddr, loadVar, hagg, hc]
theorem v_lfN {T : TypeId} {x : Operand} {b off : Nat} {B : TypeId} {vs us : List Value} {d : TypeDesc} {i : TypeInfo} [hm : HasBoxF b R B vs] (ho : o.op = .load T x) (hT : P.underlying T = some d) (hd : aggD d = true) (hi : P.info? T = some i)
    (hx : ev L x = some (pt b off)) (hu : (vs.drop off).take i.size = us) (hl : us.length = i.size) : OpQ P W n L M R o (.agg us.toArray) :=
  OpQ.of_value fun f w h1 h2 => by
    have hagg := run_isAgg' (w := w) hT
    rw [hd] at hagg
    have hlc : (loadCells ⟨b, off, none⟩ i.size).run P w = .ok us.toArray w := by
      rw [← hl]
      refine run_loadCells_list w _ us fun j v hj => ?_
      have hlt : j < us.length := (List.getElem?_eq_some_iff.1 hj).1
      rw [add_at, h2.cellF hm.mem, ← hj, ← hu, List.getElem?_take, if_pos (by omega), List.getElem?_drop]
    simp [execOp, ho, h1.ev hx, Instr.loadAt, pt, Instr.sureAddr, loadVar, hagg, run_sizeOf' hi, hlc]
theorem v_lfW {T : TypeId} {x : Operand} {b : Nat} {B : TypeId} {vs : List Value} {d : TypeDesc} {i : TypeInfo} [hm : HasBoxF b R B vs] (ho : o.op = .load T x) (hT : P.underlying T = some d) (hd : aggD d = true) (hi : P.info? T = some i)
    (hx : ev L x = some (pt b 0)) (hu : vs.length = i.size) : OpQ P W n L M R o (.agg vs.toArray) :=
  v_lfN ho hT hd hi hx (by rw [List.drop_zero, ← hu, List.take_length]) hu
end Go.G
namespace Go.G
section
variable {P : Program} {W : World} {n : Nat} {D : List Deferred} {L : Tm} {M : List Res} {R : List Fact} {Q : Exit → Act → World → Prop} {o : Oper}
theorem run_byteOf0 {w : World} {b : Nat} {T : TypeId} (h : w.heap[b]? = some (.cells #[] T (0, 0))) (hc : P.cellsOf T = 0) : (byteOf ⟨b, 0, none⟩).run P w = .ok 0 w := by
  unfold byteOf
  simp [noView, viewAt, getObj, shape, World.shape?, Sem.run, h, hc, Sem.run_bind, go_sem]
theorem v_fieldAddr0 {T : TypeId} {x : Operand} {b j : Nat} {fs : Array Field} {f : Field} {i : TypeInfo} [hm : HasBox b M T []] (ho : o.op = .fieldAddr T x j) (hT : P.underlying T = some (.struct fs)) {ft : TypeId} (hi : P.info? ft = some i) (hf : fs[j]? = some f) (hft : f.type = ft) (hz : i.size = 0) (h1 : f.offset = 0) (h2 : f.byteOffset = 0) (hc : P.cellsOf T = 0)
    (hx : ev L x = some (pt b 0)) : OpQ P W n L M R o (pt b 0) :=
  OpQ.of_value fun g w g1 g2 => by
    subst hft
    have hb := run_byteOf0 (P := P) (g2.bl hm.mem) hc
    simp [execOp, ho, g1.ev hx, Instr.fieldAt, pt, run_underlying hT, hf, Instr.sureAddr, fieldPlace, run_sizeOf' hi, hz, partAt, h1, h2, hb]
theorem p_nil2 {ops : Array Oper} {F : List Spc → Prop} {P0 : List Res} {acc acc' : List Spc} (e : acc = acc') (hp : preOf acc' = P0) (h : F acc') (hl : lateX ops acc' = true := by rfl) : ParO P W n M R ops (fun ss => preOf ss = P0 ∧ lateX ops ss = true ∧ F ss) [] acc L := by
  subst e; exact p_nil ⟨hp, hl, h⟩
end
end Go.G

namespace Sod2
open Go Go.G Foot4
end Sod2

namespace Sod2
open Go Go.G Foot4
theorem at_set {c : T3} {i k : Nat} {x : Int} (hi : i < 3) (hk : k < 3) : (set3 c i x).at k = if k = i then x else c.at k := by
  obtain rfl | rfl | rfl : i = 0 ∨ i = 1 ∨ i = 2 := by omega
  all_goals
    obtain rfl | rfl | rfl : k = 0 ∨ k = 1 ∨ k = 2 := by omega
    all_goals rfl
theorem t3_ext {a b : T3} (h : ∀ k, k < 3 → a.at k = b.at k) : a = b := by
  have h0 : a.a = b.a := h 0 (by omega)
  have h1 : a.b = b.b := h 1 (by omega)
  have h2 : a.c = b.c := h 2 (by omega)
  cases a; cases b
  simp only at h0 h1 h2
  subst h0; subst h1; subst h2; rfl
theorem set_set {c : T3} {i : Nat} {x y : Int} (hi : i < 3) : set3 (set3 c i x) i y = set3 c i y := by
  refine t3_ext fun k hk => ?_
  by_cases h : k = i
  · rw [at_set hi hk, if_pos h, at_set hi hk, if_pos h]
  · rw [at_set hi hk, if_neg h, at_set hi hk, if_neg h, at_set hi hk, if_neg h]
def nxC (B : Bank) (c : T3) (i k : Nat) : List T3 := costsL (B.spits.drop (i + 1)) (i + 1) (set3 c i ((B.spits.getD i default).lo + (k : Int)))
def preC (B : Bank) (c : T3) (i : Nat) : Nat → List T3
  | 0 => []
  | k + 1 => preC B c i k ++ nxC B c i k
def SubL (l xs : List T3) (i0 : Nat) : Prop := ∀ (j : Nat) (y : T3), l[j]? = some y → xs[i0 + j]? = some y
theorem SubL.left {a b xs : List T3} {i0 : Nat} (h : SubL (a ++ b) xs i0) : SubL a xs i0 := fun j y hj => h j y (by
  have : j < a.length := by
    by_cases hl : j < a.length
    · exact hl
    · rw [List.getElem?_eq_none (by omega)] at hj; cases hj
  rw [List.getElem?_append_left this]; exact hj)
theorem SubL.right {a b xs : List T3} {i0 : Nat} (h : SubL (a ++ b) xs i0) : SubL b xs (i0 + a.length) := fun j y hj => by
  have := h (a.length + j) y (by rw [List.getElem?_append_right (by omega)]; rw [show a.length + j - a.length = j from by omega]; exact hj)
  rw [show i0 + a.length + j = i0 + (a.length + j) from by omega]; exact this
end Sod2

namespace Foot4
open Go Go.G
def advF (p : T3) (d : Int) : Nat → Nat → Nat
  | 0, k => k
  | f + 1, k => if 0 ≤ p.at k ∧ p.at k ≤ d then advF p d f (k + 1) else k
def adv (p : T3) (d : Int) (k : Nat) : Nat := advF p d (3 - k) k
theorem adv_go {p : T3} {d : Int} {k : Nat} (h : k < 3 ∧ 0 ≤ p.at k ∧ p.at k ≤ d) : adv p d k = adv p d (k + 1) := by
  unfold adv
  rw [show 3 - k = (3 - (k + 1)) + 1 from by omega, advF, if_pos h.2]
theorem advF_le {p : T3} {d : Int} : ∀ f k, advF p d f k ≤ k + f
  | 0, k => Nat.le_refl k
  | f + 1, k => by
    have := advF_le (p := p) (d := d) f (k + 1)
    simp only [advF]
    split <;> omega
theorem adv_le {p : T3} {d : Int} {k : Nat} (h : k ≤ 3) : adv p d k ≤ 3 := by
  have := advF_le (p := p) (d := d) (3 - k) k
  unfold adv; omega
def wetS (sel : Int → Int → Int) (F : Work) (heap : Nat) (p : T3) : Nat → Int × Nat
  | 0 => (sel (F.heaps.getD heap default).lo (F.heaps.getD heap default).hi, 0)
  | d + 1 =>
    let s := wetS sel F heap p d
    let k := adv p d s.2
    if k = 3 then (s.1, 3) else (step s.1 (sel (F.rain.getD d default).lo (F.rain.getD d default).hi) (F.dr.at k), k)
def wetF (sel : Int → Int → Int) (F : Work) (heap : Nat) (p : T3) (d : Nat) : Int := (wetS sel F heap p d).1
structure Tr (P : Program) (name : String) where
  T : TypeId
  v : Value
  k : FuncId
  sel : Int → Int → Int
  hm : HasM P T name k
  hv : ∀ lo hi : Int, -1000 ≤ lo → lo ≤ 1000 → -1000 ≤ hi → hi ≤ 1000 → FnV P k [v, .agg #[i64 lo, i64 hi]] [] (i64 (sel lo hi))
  hs : ∀ lo hi, sel lo hi = lo ∨ sel lo hi = hi
abbrev Tr.i {P : Program} {name : String} (t : Tr P name) : Value := .iface t.T t.v
def canF (sel : Int → Int → Int) (F : Work) (heap : Nat) (p : T3) (k : Nat) : Prop := p.at k < 0 ∨ wetF sel F heap p (p.at k).toNat ≤ F.lim.at k
instance (sel : Int → Int → Int) (F : Work) (heap : Nat) (p : T3) (k : Nat) : Decidable (canF sel F heap p k) := by unfold canF; infer_instance
def keptF (sel : Int → Int → Int) (F : Work) (heap : Nat) (p : T3) : Prop := canF sel F heap p 0 ∧ canF sel F heap p 1 ∧ canF sel F heap p 2
instance (sel : Int → Int → Int) (F : Work) (heap : Nat) (p : T3) : Decidable (keptF sel F heap p) := by unfold keptF; infer_instance
abbrev selD : Int → Int → Int := fun lo _ => lo
abbrev selW : Int → Int → Int := fun _ hi => hi
theorem range'_pre {s k m : Nat} (h : k ≤ m) : List.range' s k <+: List.range' s m := by
  refine ⟨List.range' (s + k) (m - k), ?_⟩
  have := List.range'_append (s := s) (m := k) (n := m - k) (step := 1)
  rw [Nat.one_mul] at this
  rw [this, show k + (m - k) = m from by omega]
theorem range_pre {k m : Nat} (h : k ≤ m) : List.range k <+: List.range m := by
  rw [List.range_eq_range', List.range_eq_range']; exact range'_pre h
theorem flatMap_pre {α β : Type} {l m : List α} (f : α → List β) (h : l <+: m) : l.flatMap f <+: m.flatMap f := by
  obtain ⟨t, rfl⟩ := h
  exact ⟨t.flatMap f, by simp⟩
theorem whole_pre {n a b c : Nat} (ha : a < b) (hb : b < c) (hc : c < n) : wholeC n a b (c + 1) <+: whole n := by
  have h1 : wholeC n a b (c + 1) <+: wholeB n a (b + 1) := by
    rw [← wholeB_step ha]
    unfold wholeC
    exact (List.prefix_append_right_inj _).2 (((range'_pre (by omega)).map _))
  have h2 : wholeB n a (b + 1) <+: wholeA n (a + 1) := by
    rw [← wholeA_step]
    unfold wholeB
    exact (List.prefix_append_right_inj _).2 (flatMap_pre _ (range'_pre (by omega)))
  have h3 : wholeA n (a + 1) <+: whole n := flatMap_pre _ (range_pre (by omega))
  exact (h1.trans h2).trans h3
theorem whole_at {n a b c : Nat} (ha : a < b) (hb : b < c) (hc : c < n) : (whole n)[(wholeC n a b c).length]? = some ⟨a, b, c⟩ := by
  obtain ⟨t, ht⟩ := whole_pre ha hb hc
  rw [← ht, wholeC_step hb]
  simp
def keptB (sel : Int → Int → Int) (F : Work) (heap : Nat) (p : T3) : Bool := decide (keptF sel F heap p)
def sureF (sel : Int → Int → Int) (F : Work) (heap : Nat) : List T3 := (whole F.rain.length).filter (keptB sel F heap)
def best1 {α : Type} (bt : α → α → Bool) (z : α) (xs : List α) : Nat → α
  | 0 => z
  | k + 1 => if k = 0 ∨ bt (xs.getD k z) (best1 bt z xs k) = true then xs.getD k z else best1 bt z xs k
theorem best1_yes {α : Type} {bt : α → α → Bool} {z : α} {xs : List α} {k : Nat} (h : k = 0 ∨ bt (xs.getD k z) (best1 bt z xs k) = true) : best1 bt z xs (k + 1) = xs.getD k z := if_pos h
theorem best1_no {α : Type} {bt : α → α → Bool} {z : α} {xs : List α} {k : Nat} (h0 : k ≠ 0) (h : ¬ bt (xs.getD k z) (best1 bt z xs k) = true) : best1 bt z xs (k + 1) = best1 bt z xs k := if_neg (fun x => x.elim h0 h)
theorem whole_mem {n : Nat} {p : T3} (h : p ∈ whole n) : ∃ a b c : Nat, p = ⟨a, b, c⟩ ∧ a < b ∧ b < c ∧ c < n := by
  unfold whole at h
  obtain ⟨a, ha, h⟩ := List.mem_flatMap.1 h
  unfold bs3 at h
  obtain ⟨b, hb, h⟩ := List.mem_flatMap.1 h
  unfold cs3 at h
  obtain ⟨c, hc, rfl⟩ := List.mem_map.1 h
  simp only [List.mem_range'_1] at hb hc
  exact ⟨a, b, c, rfl, by omega, by omega, by omega⟩
theorem whole_days {n : Nat} {p : T3} (h : p ∈ whole n) : ∀ k, k < 3 → 0 ≤ p.at k ∧ p.at k ≤ (n : Int) - 1 := by
  obtain ⟨a, b, c, rfl, h1, h2, h3⟩ := whole_mem h
  intro k hk
  obtain rfl | rfl | rfl : k = 0 ∨ k = 1 ∨ k = 2 := by omega
  · show (0 : Int) ≤ a ∧ (a : Int) ≤ n - 1
    omega
  · show (0 : Int) ≤ b ∧ (b : Int) ≤ n - 1
    omega
  · show (0 : Int) ≤ c ∧ (c : Int) ≤ n - 1
    omega
end Foot4

namespace Go.G
variable {P : Program} {W : World} {n : Nat} {D : List Deferred} {L : Tm} {M : List Res} {R : List Fact} {Q : Exit → Act → World → Prop} {o : Oper}
theorem run_shl1 {h m : Nat} (hh : h < 62) (hm : m = 2 ^ h) (w : World) : (Op.shift .shl .i64 1 .i64 (h : Int)).run P w = .ok (.int .i64 (m : Int)) w := by
  have h2 : ¬ ((h : Int) < 0) := by omega
  have h3 : min h 64 = h := by omega
  have h4 : (2 : Nat) ^ h ≤ 2 ^ 61 := Nat.pow_le_pow_right (by omega) (by omega)
  have hm' : m ≤ 2305843009213693952 := by rw [hm]; exact h4
  have hw : IntKind.wrap .i64 (m : Int) = (m : Int) := by
    rw [IntKind.wrap_i64]
    omega
  have e : (1 : Int) * 2 ^ (min (h : Int).toNat IntKind.i64.bits) = (m : Int) := by
    rw [show (h : Int).toNat = h from by simp, show IntKind.i64.bits = 64 from rfl, h3, hm]
    simp
  unfold Op.shift
  rw [if_neg h2]
  simp only [e, hw, Sem.run_pure]
theorem v_shl1 {t u : TypeId} {x y : Operand} {h m : Nat} (ho : o.op = .binOp .shl t x y u) (hx : ev L x = some (.int .i64 1)) (hy : ev L y = some (.int .i64 (h : Int))) (hh : h < 62) (hm : m = 2 ^ h) : OpQ P W n L M R o (.int .i64 (m : Int)) :=
  OpQ.of_value fun f w h1 _ => by
    have hs := run_shl1 (P := P) hh hm w
    have hb : (binOp .shl t (.int .i64 1) (.int .i64 (h : Int))).run P w = .ok (.int .i64 (m : Int)) w := hs
    simp [execOp, ho, h1.ev hx, h1.ev hy, eqGuard, hb]
theorem v_orn {t u : TypeId} {x y : Operand} {a b : Nat} (ho : o.op = .binOp .or t x y u) (hx : ev L x = some (.int .i64 (a : Int))) (hy : ev L y = some (.int .i64 (b : Int))) (ha : a < 2 ^ 62) (hb : b < 2 ^ 62) : OpQ P W n L M R o (.int .i64 ((a ||| b : Nat) : Int)) :=
  OpQ.of_value fun f w h1 _ => by
    have hlt : a ||| b < 2 ^ 62 := Nat.or_lt_two_pow ha hb
    have hw : IntKind.wrap .i64 ((a ||| b : Nat) : Int) = ((a ||| b : Nat) : Int) := by
      rw [IntKind.wrap_i64]
      omega
    have hs : (Op.intBits .or .i64 (a : Int) (b : Int)).run P w = .ok (.int .i64 ((a ||| b : Nat) : Int)) w := by
      unfold Op.intBits
      have e1 : (BitVec.ofInt IntKind.i64.bits (a : Int) ||| BitVec.ofInt IntKind.i64.bits (b : Int)).toNat = a ||| b := by
        have h64 : IntKind.i64.bits = 64 := rfl
        rw [BitVec.toNat_or]
        simp only [BitVec.ofInt_natCast, BitVec.toNat_ofNat, h64]
        rw [Nat.mod_eq_of_lt (by omega), Nat.mod_eq_of_lt (by omega)]
      simp only [e1, hw, Sem.run_pure]
    have hb2 : (binOp .or t (.int .i64 (a : Int)) (.int .i64 (b : Int))).run P w = .ok (.int .i64 ((a ||| b : Nat) : Int)) w := hs
    simp [execOp, ho, h1.ev hx, h1.ev hy, eqGuard, hb2]
end Go.G

namespace Foot4
open Go Go.G
def withTo (B : List Int) (p : T3) : Nat → List Int
  | 0 => B
  | k + 1 => if 0 ≤ p.at k then (withTo B p k).set (p.at k).toNat ((withTo B p k).getD (p.at k).toNat 0 + 1) else withTo B p k
def with_ (B : List Int) (p : T3) : List Int := withTo B p 3
theorem withTo_len (B : List Int) (p : T3) : ∀ k, (withTo B p k).length = B.length
  | 0 => rfl
  | k + 1 => by
    simp only [withTo]
    split
    · simp [withTo_len B p k]
    · exact withTo_len B p k
theorem with_len (B : List Int) (p : T3) : (with_ B p).length = B.length := withTo_len B p 3
end Foot4

namespace Foot4
open Go Go.G
def busyTo (l : List T3) : Nat → List Int
  | 0 => [0, 0, 0, 0, 0, 0, 0, 0]
  | h + 1 => with_ (busyTo l h) (l.getD h default)
section
variable {F : Work} {l : List T3} {h i : Nat} {p : T3}
end
def ListOk (F : Work) (l : List T3) : Prop := (l.length : Int) = (F.heaps.length : Int) ∧ ∀ k, k < l.length → Days F.rain.length (l.getD k default)
instance (F : Work) (l : List T3) : Decidable (ListOk F l) := by unfold ListOk; infer_instance
end Foot4

namespace Foot4
open Go Go.G
structure Way where
  sods : Int
  plan : T3
  deriving DecidableEq, Inhabited
def more (x y : Way) : Bool := decide (y.sods < x.sods)
def wayL (l : List Way) : Way := best1 more default l l.length
end Foot4

namespace Go.G
variable {P : Program} {W : World} {n : Nat} {D : List Deferred} {L : Tm} {M : List Res} {R : List Fact} {Q : Exit → Act → World → Prop} {o : Oper}
structure FnM (P : Program) (k : FuncId) (args : List Value) (m : Res) (R0 : List Fact) (val : Value → Prop) : Prop where
  enter : ∀ (ag : Array Value) (w : World), (callFunc k ag).run P w = .ok (.enter k ag) w
  calls : ∀ W M Rf w, St W (m :: M) (R0 ++ Rf) w → Calls P k args.toArray w fun e w' => ∃ v, e = .returned v ∧ val v ∧ St W (m :: M) (R0 ++ Rf) w'
def RetM (W : World) (m : Res) (M : List Res) (R : List Fact) (val : Value → Prop) (e : Ending) (w' : World) : Prop := ∃ v, e = .returned v ∧ val v ∧ St W (m :: M) R w'
theorem FnM.intro {k : FuncId} {args : List Value} {m : Res} {R0 : List Fact} {val : Value → Prop} {fn : Func} {c : Code} (he : ∀ (ag : Array Value) (w : World), (callFunc k ag).run P w = .ok (.enter k ag) w)
    (hf : P.funcs[k]? = some fn) (hb : fn.body = some c) (hn : fn.ntmps = n) (ha : Nat.ble args.length n = true)
    (h : ∀ W M Rf, Imp W n [] (argsL args 0) (m :: M) (R0 ++ Rf) (c.wp P (bodyPost P fn (RetM W m M (R0 ++ Rf) val)))) : FnM P k args m R0 val := by
  refine ⟨he, fun W M Rf w hw => calls_of_wp hf hb ?_⟩
  rw [hn]
  exact h W M Rf _ w (FSat.entry (Nat.le_of_ble_eq_true ha)) rfl hw
end Go.G

namespace Foot4
open Go Go.G
def freeB (men : Int) (B : List Int) (p : T3) : Bool := ![p.a, p.b, p.c].any fun d => decide (men ≤ B.getD d.toNat 0)
def noneT : T3 := ⟨-1, -1, -1⟩
def waysW (F : Work) (men : Int) (h : Nat) (B : List Int) (rec : List Int → Int) (l : List T3) : List Way :=
  ⟨rec B, noneT⟩ :: (l.filter (freeB men B)).map fun p => ⟨(F.heaps.getD h default).sods + rec (with_ B p), p⟩
def bestW (F : Work) (men : Int) : Nat → List Int → Way
  | 0, _ => default
  | r + 1, B => wayL (waysW F men (F.heaps.length - (r + 1)) B (fun C => (bestW F men r C).sods) (sureF selW F (F.heaps.length - (r + 1))))
theorem best1_mem {α : Type} {bt : α → α → Bool} {z : α} {xs : List α} : ∀ k, 0 < k → k ≤ xs.length → best1 bt z xs k ∈ xs
  | 0, h, _ => absurd h (by omega)
  | k + 1, _, hk => by
    have hx : xs.getD k z ∈ xs := by
      rw [List.getD_eq_getElem?_getD, List.getElem?_eq_getElem (by omega)]
      exact List.getElem_mem _
    simp only [best1]
    split
    · exact hx
    · rename_i h
      exact best1_mem k (by omega) (by omega)
theorem wayL_mem {l : List Way} (h : 0 < l.length) : wayL l ∈ l := best1_mem _ h (Nat.le_refl _)
end Foot4

namespace Go.G
variable {P : Program} {W : World} {n : Nat} {D : List Deferred} {L : Tm} {M : List Res} {R : List Fact} {Q : Exit → Act → World → Prop} {o : Oper}
def sblk : Value → Nat
  | .slice (some a) _ _ => a.block
  | _ => 0
theorem p_lit {ops : Array Oper} {K : List Spc → Prop} {rest : List Oper} {acc : List Spc} {t e : TypeId} {ps : List (Nat × Operand)} {vs : List Value} {len : Nat} {i : TypeInfo} {z : Value} {cs : List Value} {d : Nat} (ho : o.op = .buildSlice t len ps.toArray) (ht : P.underlying t = some (.slice e)) (hi : P.info? e = some i) (hz : i.zero = some z)
    (hbig : Nat.ble (len * i.size) 16777216 = true) (hpos : Nat.beq (len * i.size) 0 = false) (hg : o.guard = none) (hdst : o.dst = some d) (hd : Nat.blt d n = true)
    (hx : evs L (ps.map (·.2)) = some vs) (hk : ps.map (·.1) = List.range ps.length) (hp : PlaceOK (fun k => some (k * i.size, i.size)) 0 0 vs) [hc : CatC vs cs] (hl : cs.length = len * i.size)
    (hr : ParO P W n M R ops K rest (acc ++ [Spc.g (fun v => v = .slice (some ⟨sblk v, 0, none⟩) len len) (fun _ => []) (fun v => [boxF (sblk v) e cs])]) L) : ParO P W n M R ops K (o :: rest) acc L := by
  refine ⟨Spc.g (fun v => v = .slice (some ⟨sblk v, 0, none⟩) len len) (fun _ => []) (fun v => [boxF (sblk v) e cs]), by simp [hdst, hd], .inl ⟨rfl, .inl ⟨.inl hg, ?_⟩⟩, by simpa [addL, Spc.g] using hr⟩
  intro Mx Rx a w g1 g3
  have hu := parts_eq g1 hx hk
  have hb1 : ¬ (2 ^ 24 < len * i.size) := by
    have : len * i.size ≤ 16777216 := by simpa using hbig
    omega
  have hb2 : ¬ (len * i.size = 0) := fun e => by rw [e] at hpos; cases hpos
  have hf := fill_all (cells := (Array.range (len * i.size)).map (fun k => z.cells[k % z.cells.size]!)) hp hc.cat (by simpa using hl)
  have hrun : (execOp a.eval o).run P w = .ok (.value (.slice (some ⟨w.heap.size, 0, none⟩) len len)) (w.alloc (.cells cs.toArray e)) := by
    simp only [execOp, ho, Instr.buildSlice, Sem.run_bind, run_underlying ht, run_sizeOf' hi, Result.andThen_ok, gt_iff_lt, hb1, hb2, if_false, run_zeroValue' hi hz, Sem.run_pure, List.map_toArray, hu, hf]
    simp [newRow, newObj, Sem.run]
  rw [hrun]
  refine ⟨rfl, ?_⟩
  have h4 : St W (bx w.heap.size e cs :: (Mx ++ M)) (Rx ++ R) (w.alloc (.cells cs.toArray e)) := g3.push _
  refine (h4.seal_.derive (ψ := boxF w.heap.size e cs) fun V hV => ?_).weak ?_
  · obtain ⟨s, hs, hp⟩ := hV (sealed (bx w.heap.size e cs)) (by simp)
    have hs' : s = [(w.heap.size, .cells cs.toArray e (0, 0))] := hs
    subst hs'
    exact hp (w.heap.size, .cells cs.toArray e (0, 0)) (by simp)
  · intro φ hφ
    rcases List.mem_append.1 hφ with h | h
    · have : φ = boxF w.heap.size e cs := by simpa [Spc.fs, Spc.g, sblk] using h
      subst this; simp
    · exact List.mem_cons_of_mem _ (List.mem_cons_of_mem _ h)
theorem p_dep {ops : Array Oper} {K : List Spc → Prop} {rest : List Oper} {acc : List Spc} {d : Nat} {v : Value} (j : Nat) {oj : Oper} {sj : Spc} (hoj : ops[j]? = some oj) (hsj : acc[j]? = some sj) (hdj : sj.det = none) (hdep : depD ops o j = true) (hg : o.guard = none) (hdst : o.dst = some d) (hd : Nat.blt d n = true)
    (ho : ∀ u, sj.pval u → ∀ Mx Rx, OpQ P W n ((oj.dst.getD 1000000, u) :: L) (Mx ++ M) (Rx ++ (sj.fct u ++ R)) o v) (h : ParO P W n M R ops K rest (acc ++ [Spc.q v]) ((d, v) :: L)) : ParO P W n M R ops K (o :: rest) acc L :=
  ⟨Spc.q v, by simp [hdst, hd], .inl ⟨rfl, .inr (.inr (.inl ⟨hg, j, oj, sj, hoj, hsj, hdj, hdep, fun u hu => OpG.of_q (ho u hu)⟩))⟩, by simpa [addL, Spc.q, hdst] using h⟩
theorem Imp.ownBox {α : Type} {enc : α → List Value} {sz : Nat} {T : TypeId} {cs : List Value} {M' : List Res} {X : Act → World → Prop} (b : Nat) (xs : List α) [hd : DelBox b M T cs M'] (e : cs = xs.flatMap enc) (hl : cs.length = xs.length * sz) (hm : xs.length ≤ maxLen)
    (h : Imp W n D L (ownL (.slice (some ⟨b, 0, none⟩) xs.length xs.length) T sz enc xs :: M') R X) : Imp W n D L M R X := by
  intro a w h1 h2 h3
  refine h a w h1 h2 ?_
  have h4 : St W (bx b T cs :: M') R w := h3.perm hd.del.perm
  obtain ⟨s, ⟨s1, s2, rfl, hs1, hM⟩, hO, hR⟩ := h4.mem
  refine ⟨h4.os, h4.tape, h4.output, s1 ++ s2, ⟨s1, s2, rfl, ?_, hM⟩, hO, hR⟩
  have hs' : s1 = [(b, .cells cs.toArray T (0, 0))] := hs1
  subst e
  refine ⟨hl, .inr ⟨b, xs.length, (xs.flatMap enc).toArray, rfl, Nat.le_refl _, hm, by simpa using hl, ?_, hs'⟩⟩
  rw [← hl]; exact List.take_length
end Go.G

namespace Go.G
variable {P : Program} {W : World} {n : Nat} {D : List Deferred} {L : Tm} {M : List Res} {R : List Fact} {Q : Exit → Act → World → Prop} {o : Oper}
instance (priority := 90) DelC.app {A M M' : List Res} {r : Res} [h : DelC M r M'] : DelC (A ++ M) r (A ++ M') := ⟨by
  obtain ⟨X, Y, h1, h2⟩ := h.del
  exact ⟨A ++ X, Y, by simp [h1], by simp [h2]⟩⟩
theorem v_cast {u v : Value} (h : OpQ P W n L M R o u) (e : u = v) : OpQ P W n L M R o v := e ▸ h
theorem FnV.pre {k : FuncId} {args : List Value} {R1 R2 : List Fact} {v : Value} (h : FnV P k args R1 v) (hd : ∀ V, (∀ φ ∈ R2, φ V) → ∀ φ ∈ R1, φ V) : FnV P k args R2 v := by
  refine ⟨h.enter, fun W M Rf w hw => ?_⟩
  have key : ∀ (S : List Fact), (∀ φ ∈ S, φ ∈ R1) → St W M (S ++ (R2 ++ Rf)) w := by
    intro S
    induction S with
    | nil => intro _; exact hw
    | cons φ S ih =>
      intro hS
      exact (ih (fun ψ hψ => hS ψ (by simp [hψ]))).derive fun V hV => hd V (fun ψ hψ => hV ψ (by simp [hψ])) φ (hS φ (by simp))
  exact (h.calls W M (R2 ++ Rf) w (key R1 (fun _ h => h))).mono fun e w' ⟨he, hs⟩ => ⟨he, hs.weak fun φ hφ => List.mem_append_right _ hφ⟩
abbrev Spc.lit (len : Nat) (e : TypeId) (cs : List Value) : Spc := Spc.g (fun v => v = .slice (some ⟨sblk v, 0, none⟩) len len) (fun _ => []) (fun v => [boxF (sblk v) e cs])
theorem p_depLit {ops : Array Oper} {K : List Spc → Prop} {rest : List Oper} {acc : List Spc} {d : Nat} {v : Value} (j : Nat) {oj : Oper} {len : Nat} {e : TypeId} {cs : List Value} (hoj : ops[j]? = some oj) (hsj : acc[j]? = some (Spc.lit len e cs)) (hdep : depD ops o j = true) (hg : o.guard = none) (hdst : o.dst = some d) (hd : Nat.blt d n = true)
    (ho : ∀ b Mx Rx, OpQ P W n ((oj.dst.getD 1000000, .slice (some ⟨b, 0, none⟩) len len) :: L) (Mx ++ M) (Rx ++ (boxF b e cs :: R)) o v) (h : ParO P W n M R ops K rest (acc ++ [Spc.q v]) ((d, v) :: L)) : ParO P W n M R ops K (o :: rest) acc L :=
  p_dep j hoj hsj rfl hdep hg hdst hd (fun u hu Mx Rx => by
    have := ho (sblk u) Mx Rx
    rw [← (show u = .slice (some ⟨sblk u, 0, none⟩) len len from hu)] at this
    exact this) h
theorem p_acc {ops : Array Oper} {K : List Spc → Prop} {l : List Oper} {acc acc' : List Spc} (e : acc = acc') (h : ParO P W n M R ops K l acc' L) : ParO P W n M R ops K l acc L := by
  subst e; exact h
theorem f_lit {X : Act → World → Prop} {os : List Oper} {ss : List Spc} {len : Nat} {e : TypeId} {cs : List Value} {d : Nat} (hdst : o.dst = some d) (h : ∀ b, Fin W n D X os ss ((d, .slice (some ⟨b, 0, none⟩) len len) :: L) M (boxF b e cs :: R)) : Fin W n D X (o :: os) (Spc.lit len e cs :: ss) L M R :=
  f_g hdst (fun v hv => by
    have := h (sblk v)
    rw [← (show v = .slice (some ⟨sblk v, 0, none⟩) len len from hv)] at this
    exact this)
theorem Imp.settleS {α : Type} {enc : α → List Value} {sz : Nat} {T : TypeId} {xs : List α} {M' : List Res} {X : Act → World → Prop} (v : Value) [hd : HasOwn v M T sz enc xs M'] (henc : ∀ x, (enc x).length = sz) (h : ∀ oa cap, v = .slice oa xs.length cap → Imp W n D L M' (rowD oa sz enc xs :: R) X) : Imp W n D L M R X :=
  Imp.settleL v henc (fun hs => by
    obtain ⟨oa, cap, rfl⟩ := hs
    exact h oa cap rfl)
end Go.G

namespace Foot4
open Go Go.G
section
variable {F : Work} {men : Int} {h : Nat} {B : List Int} {rec : List Int → Int} {k : Nat} {p : T3}
end
end Foot4

namespace Go.G
variable {P : Program} {W : World} {n : Nat} {D : List Deferred} {L : Tm} {M : List Res} {R : List Fact} {Q : Exit → Act → World → Prop} {o : Oper}
def Mono (φ : Fact) : Prop := ∀ V V', φ V → Le V V' → φ V'
theorem Mono.box (b : Nat) (T : TypeId) (vs : List Value) : Mono (boxF b T vs) := fun _ _ h hl => hl _ _ h
theorem Mono.row {α : Type} (oa : Option Addr) (sz : Nat) (enc : α → List Value) (xs : List α) : Mono (rowD oa sz enc xs) := fun _ _ h hl => by
  rcases h with h | ⟨b, off, C, T, fr, h1, h2, h3⟩
  · exact .inl h
  · exact .inr ⟨b, off, C, T, fr, h1, hl _ _ h2, h3⟩
theorem Mono.and {φ ψ : Fact} (h : Mono φ) (k : Mono ψ) : Mono (fun V => φ V ∧ ψ V) := fun V V' x hl => ⟨h V V' x.1 hl, k V V' x.2 hl⟩
end Go.G

namespace Go.G
variable {P : Program} {W : World} {n : Nat} {D : List Deferred} {L : Tm} {M : List Res} {R : List Fact} {Q : Exit → Act → World → Prop} {o : Oper}
instance (priority := 1350) SelMC.capp {M A B : List Res} {r : Res} [h : SelMC M (r :: (A ++ B))] : SelMC M ((r :: A) ++ B) := ⟨h.sel⟩
instance (priority := 1340) SelMC.napp {M B : List Res} [h : SelMC M B] : SelMC M ([] ++ B) := ⟨h.sel⟩
theorem made_flat {α : Type} {enc : α → List Value} {z : Array Value} {z0 : α} (hz : enc z0 = z.toList) : ∀ l : Nat, (madeCells z (l * z.size)).toList = (List.replicate l z0).flatMap enc := by
  intro l
  have hlen : (enc z0).length = z.size := by rw [hz]; simp
  apply List.ext_getElem?
  intro k
  by_cases hk : k < l * z.size
  · have hpos : 0 < z.size := Nat.pos_of_ne_zero fun h => by rw [h] at hk; simp at hk
    have hlt : k % z.size < z.size := Nat.mod_lt _ hpos
    have hdiv : k / z.size < l := Nat.div_lt_of_lt_mul (by rw [Nat.mul_comm]; exact hk)
    have hkk : k = (k / z.size) * z.size + k % z.size := by rw [Nat.mul_comm]; exact (Nat.div_add_mod k z.size).symm
    have key : ∀ (l i j : Nat), i < l → j < z.size → ((List.replicate l z0).flatMap enc)[i * z.size + j]? = z[j]? := by
      intro l
      induction l with
      | zero => intro i j h; omega
      | succ l ih =>
        intro i j h hj
        rw [List.replicate_succ, List.flatMap_cons]
        cases i with
        | zero =>
          rw [List.getElem?_append_left (by rw [hlen]; omega), hz]
          simp
        | succ i =>
          rw [List.getElem?_append_right (by rw [hlen, Nat.add_mul]; omega), hlen, show (i + 1) * z.size + j - z.size = i * z.size + j from by rw [Nat.add_mul]; omega]
          exact ih i j (by omega) hj
    rw [show ((List.replicate l z0).flatMap enc)[k]? = z[k % z.size]? from by conv => lhs; rw [hkk]
                                                                              exact key l _ _ hdiv hlt]
    unfold madeCells
    simp [hk, hlt]
  · have h1 : ((List.replicate l z0).flatMap enc).length = l * z.size := by
      clear hk
      induction l with
      | zero => simp
      | succ l ih => rw [List.replicate_succ, List.flatMap_cons, List.length_append, hlen, ih, Nat.add_mul]; omega
    rw [List.getElem?_eq_none (by simp [madeCells]; omega), List.getElem?_eq_none (by omega)]
theorem o_make {α : Type} {enc : α → List Value} {ops : Array Oper} {rest : List Oper} {t e : TypeId} {i : TypeInfo} {z : Value} {x y : Operand} {l c d : Nat} {sz : Nat} (z0 : α) (ho : o.op = .makeSlice t x y) (ht : P.underlying t = some (.slice e)) (hi : P.info? e = some i) (hz : i.zero = some z) (hsz : i.size = sz) (hzs : z.cells.size = sz) (hz0 : enc z0 = z.cells.toList)
    (hg : o.guard = none) (hdst : o.dst = some d) (hd : Nat.blt d n = true) (hx : ev L x = some (.int .i64 (l : Int))) (hy : ev L y = some (.int .i64 (c : Int))) (hlc : l ≤ c) (hbd : c ≤ 1000000 ∧ i.bytes ≤ 1000000)
    (h : ∀ b, Imp W n D ((d, .slice (some ⟨b, 0, none⟩) l c) :: L) (ownL (.slice (some ⟨b, 0, none⟩) l c) e sz enc (List.replicate l z0) :: M) R (wpList P ops Q rest)) : Imp W n D L M R (wpList P ops Q (o :: rest)) := by
  intro a w g1 g2 g3
  refine wpList_plain hg fun K hK => ?_
  unfold Oper.wp
  have hby : (i.bytes : Int) * (c : Int) ≤ 281474976710656 := by
    have h1 : i.bytes * c ≤ 1000000 * 1000000 := Nat.mul_le_mul hbd.2 hbd.1
    have h2 : ((i.bytes * c : Nat) : Int) ≤ 281474976710656 := by omega
    rwa [Int.natCast_mul] at h2
  have hr := run_make (P := P) w t e i z ht hi hz .i64 .i64 l c (by omega) (by omega) hby (by omega)
  have key : ∀ ρ : Operand → Value, ρ x = .int .i64 (l : Int) → ρ y = .int .i64 (c : Int) → (execOp ρ o).run P w = .ok (.value (.slice (some ⟨w.heap.size, 0, none⟩) l c)) (w.alloc (.cells (madeCells z.cells (c * i.size)) e)) := by
    intro ρ e1 e2
    unfold execOp
    simp only [Int.toNat_natCast] at hr
    simp only [ho, e1, e2, Sem.run_bind, hr, Result.andThen_ok, Sem.run_pure]
  rw [key _ (g1.ev hx) (g1.ev hy), Oper.upon_value, hdst]
  refine hK _ _ (h w.heap.size _ _ (g1.put (by simpa using hd) _) (by rw [put_defers]; exact g2) ?_)
  have h4 := g3.push (.cells (madeCells z.cells (c * i.size)) e)
  obtain ⟨s, ⟨s1, s2, rfl, hs1, hM⟩, hO, hR⟩ := h4.mem
  refine ⟨h4.os, h4.tape, h4.output, s1 ++ s2, ⟨s1, s2, rfl, ?_, hM⟩, hO, hR⟩
  have hfl := made_flat (enc := enc) (z := z.cells) hz0 l
  have hlen : ((List.replicate l z0).flatMap enc).length = l * sz := by rw [← hfl, hzs]; simp [madeCells]
  refine ⟨by rw [hlen]; simp, .inr ⟨w.heap.size, c, _, by simp, by simpa using hlc, by simp only [maxLen]; omega, by rw [size_madeCells, hsz], ?_, hs1⟩⟩
  rw [List.length_replicate, ← hfl, hzs, hsz]
  apply List.ext_getElem?
  intro k
  rw [List.getElem?_take]
  unfold madeCells
  have hle : l * sz ≤ c * sz := Nat.mul_le_mul_right _ hlc
  split
  · rename_i hk
    simp [hk, show k < c * sz from by omega]
  · rename_i hk
    simp [hk]
theorem o_copy {α : Type} {enc : α → List Value} {ops : Array Oper} {rest : List Oper} {t t2 e : TypeId} {i : TypeInfo} {x y : Operand} {d m : Nat} {sz cap : Nat} {v : Value} {xs ys : List α} {oa : Option Addr} {M' : List Res} [hM : HasOwn v M e sz enc xs M'] [hr : HasRow oa R sz enc ys] (ho : o.op = .call { callee := .builtin .copy, args := #[x, y], argTypes := #[t, t2] })
    (ht : P.underlying t = some (.slice e)) (hi : P.info? e = some i) (hsz : i.size = sz) (hg : o.guard = none) (hdst : o.dst = some d) (hd : Nat.blt d n = true) (henc : ∀ x, (enc x).length = sz) (h1 : ∀ x, oneCells (enc x) = true)
    (hx : ev L x = some v) (hy : ev L y = some (.slice oa m cap)) (hm : m = ys.length) (hl : xs.length = ys.length)
    (h : Imp W n D ((d, .int .i64 (m : Int)) :: L) (ownL v e sz enc ys :: M') R (wpList P ops Q rest)) : Imp W n D L M R (wpList P ops Q (o :: rest)) := by
  subst hm hsz
  intro a w g1 g2 g3
  refine wpList_plain hg fun K hK => ?_
  unfold Oper.wp
  have h0 : St W (ownL v e i.size enc xs :: M') R w := g3.perm hM.del.perm
  obtain ⟨s, ho', hO⟩ := h0.res (Upd.of_mem (List.mem_cons_self ..))
  have hcl : (ys.flatMap enc).length = ys.length * i.size := by
    clear hr hy hl h
    induction ys with
    | nil => simp
    | cons y ys ih => rw [List.flatMap_cons, List.length_append, henc, ih, List.length_cons, Nat.add_mul]; omega
  have h1c : ∀ u ∈ ys.flatMap enc, u.oneCell' = true := by
    intro u hu
    obtain ⟨y, _, hy⟩ := List.mem_flatMap.1 hu
    exact oneCells_mem (h1 y) u hy
  have run : ∃ w', (Builtin.copy_ #[t, t2] o.type #[v, .slice oa ys.length cap]).run P w = .ok (goInt ys.length) w' ∧ St W (ownL v e i.size enc ys :: M') R w' := by
    obtain ⟨hlen, hcase⟩ := ho'
    by_cases hy0 : ys = []
    · subst hy0
      have hx0 : xs = [] := List.eq_nil_of_length_eq_zero (by simpa using hl)
      subst hx0
      refine ⟨w, ?_, h0⟩
      rcases hcase with ⟨rfl, _, _⟩ | ⟨b, cp, C, rfl, _⟩ <;> cases oa <;> simp [Builtin.copy_, run_underlying ht, Builtin.lenOf, Builtin.firstCells, sizeOf, typeInfo, hi, loadCells, loadCellsFrom, storeCells]
    · have hne : 0 < ys.length := List.length_pos_iff.2 hy0
      obtain ⟨b2, off, rfl, hc⟩ := g3.row hr.mem hne
      rcases hcase with ⟨rfl, h00, _⟩ | ⟨b, cp, C, rfl, hmc, hcm, hC, htake, rfl⟩
      · omega
      · have hb : w.heap[b]? = some (.cells C e (0, 0)) := hO.at_ (b, _) (by simp)
        have hload := run_loadCells_list (P := P) w ⟨b2, off, none⟩ (ys.flatMap enc) (fun j u hu => by
          have hj : j < ys.length * i.size := by rw [← hcl]; exact (List.getElem?_eq_some_iff.1 hu).1
          have hpos : 0 < i.size := Nat.pos_of_ne_zero fun h => by rw [h] at hj; simp at hj
          have hlt : j % i.size < i.size := Nat.mod_lt _ hpos
          have hdiv : j / i.size < ys.length := Nat.div_lt_of_lt_mul (by rw [Nat.mul_comm]; exact hj)
          have hkk : j = (j / i.size) * i.size + j % i.size := by rw [Nat.mul_comm]; exact (Nat.div_add_mod j i.size).symm
          have e1 := flat_at henc ys _ _ hdiv hlt
          rw [← hkk, hu] at e1
          rw [add_at]
          have e2 := hc _ _ hdiv hlt
          rw [Nat.add_assoc, ← hkk] at e2
          rw [e2, ← e1])
        have hfit : 0 + 0 + (ys.flatMap enc).length ≤ C.size := by
          rw [hcl, hC]; simp only [Nat.zero_add]; exact Nat.mul_le_mul_right _ (by omega)
        have hst := run_storeCells_at P b 0 e (ys.flatMap enc) 0 C w hb hfit h1c
        refine ⟨w.setRow b (C.toList.take (0 + 0) ++ ys.flatMap enc ++ C.toList.drop (0 + 0 + (ys.flatMap enc).length)).toArray, ?_, ?_⟩
        · have hmin : Nat.min ys.length ys.length = ys.length := Nat.min_self _
          rw [hcl] at hload
          rw [hl]
          unfold Builtin.copy_
          simp only [List.size_toArray, List.length_cons, List.length_nil, Nat.reduceAdd, Nat.lt_add_one, Nat.zero_lt_succ, Array.getElem?_eq_getElem, List.getElem_toArray, List.getElem_cons_zero, List.getElem_cons_succ, Sem.run_bind, run_underlying ht, Result.andThen_ok, Builtin.lenOf, Builtin.firstCells, Sem.run_pure, run_sizeOf' hi, hmin, hload, hst]
        · refine h0.replace Upd.here rfl rfl rfl ?_
          rintro s' ⟨_, hc'⟩ hO'
          have hs' : s' = [(b, .cells C e (0, 0))] := by
            rcases hc' with ⟨hv, _⟩ | ⟨b', cap', C', hv, _, _, _, _, hs''⟩
            · cases hv
            · simp only [Value.slice.injEq, Option.some.injEq, Addr.mk.injEq] at hv
              obtain ⟨⟨rfl, _, _⟩, _, rfl⟩ := hv
              subst hs''
              have := hO'.at_ (b, .cells C' e (0, 0)) (by simp)
              simp only at this
              rw [hb] at this
              simp only [Option.some.injEq, Obj.cells.injEq] at this
              rw [this.1]
          subst hs'
          refine ⟨[(b, .cells (C.toList.take (0 + 0) ++ ys.flatMap enc ++ C.toList.drop (0 + 0 + (ys.flatMap enc).length)).toArray e (0, 0))], ⟨hcl, .inr ⟨b, cp, _, by rw [hl], by omega, hcm, ?_, ?_, rfl⟩⟩, ⟨by simp [keys], ?_⟩, ?_, ?_⟩
          · simp only [List.size_toArray, List.length_append, List.length_take, List.length_drop, Array.length_toList]
            omega
          · simp only [Nat.add_zero, List.take_zero, List.nil_append]
            rw [← hcl]
            exact List.take_left
          · intro p hp
            simp only [List.mem_singleton] at hp
            subst hp
            exact setRow_heap w b C _ e _ hb
          · intro x hx; exact .inl (by simpa [keys] using hx)
          · intro x _ hx
            exact setRow_other w b x _ (by simpa [keys] using hx)
  obtain ⟨w', hr', hw'⟩ := run
  have hrun : ∀ ρ : Operand → Value, ρ x = v → ρ y = .slice oa ys.length cap → (execOp ρ o).run P w = .ok (.value (goInt ys.length)) w' := by
    intro ρ e1 e2
    unfold execOp
    simp only [ho, resolve, invoke, builtin, Sem.run_bind, Sem.run_pure, Result.andThen_ok, List.map_toArray, List.map_cons, List.map_nil, e1, e2, hr']
  rw [hrun _ (g1.ev hx) (g1.ev hy), Oper.upon_value, hdst]
  exact hK _ _ (h _ w' (g1.put (by simpa using hd) _) (by rw [put_defers]; exact g2) hw')
theorem FnS.intro0 {k : FuncId} {args : List Value} {R0 : List Fact} {Post : Ending → List Res → List Fact → Prop} {fn : Func} {c : Code} (he : ∀ (ag : Array Value) (w : World), (callFunc k ag).run P w = .ok (.enter k ag) w)
    (hf : P.funcs[k]? = some fn) (hb : fn.body = some c) (hn : fn.ntmps = n) (ha : Nat.ble args.length n = true)
    (h : ∀ W Mf Rf, Imp W n [] (argsL args 0) Mf (R0 ++ Rf) (c.wp P (bodyPost P fn (RetE W Mf (R0 ++ Rf) Post)))) : FnS P k args [] R0 Post := FnS.intro he hf hb hn ha h
end Go.G

namespace Foot4
open Go Go.G
@[reducible] def zeros : List Int := [0, 0, 0, 0, 0, 0, 0, 0]
def bestS (F : Work) (men : Int) : Int := (bestW F men F.heaps.length zeros).sods
def stW (F : Work) (men : Int) : Nat → List Int × List T3
  | 0 => (zeros, [])
  | k + 1 => (with_ (stW F men k).1 (bestW F men (F.heaps.length - k) (stW F men k).1).plan, (stW F men k).2 ++ [(bestW F men (F.heaps.length - k) (stW F men k).1).plan])
theorem stW_len (F : Work) (men : Int) : ∀ k, (stW F men k).1.length = 8 ∧ (stW F men k).2.length = k
  | 0 => ⟨rfl, rfl⟩
  | k + 1 => by simp [stW, with_len, stW_len F men k]
def enough (F : Work) (n : Nat) : Prop := ¬ bestS F n < bestS F 3
instance (F : Work) (n : Nat) : Decidable (enough F n) := by unfold enough; infer_instance
end Foot4

namespace Foot4
open Go Go.G
def cnt (p : T3) (day : Int) : Nat → Int
  | 0 => 0
  | k + 1 => cnt p day k + (if p.at k = day then 1 else 0)
theorem cnt_bd (p : T3) (day : Int) : ∀ k : Nat, 0 ≤ cnt p day k ∧ cnt p day k ≤ k
  | 0 => by simp [cnt]
  | k + 1 => by have := cnt_bd p day k; simp only [cnt]; split <;> omega
section
variable {F : Work} {l : List T3} {men : Int} {h i : Nat} {p : T3}
end
def Whole (p : T3) : Prop := 0 ≤ p.at 0 ∧ 0 ≤ p.at 1 ∧ 0 ≤ p.at 2
instance (p : T3) : Decidable (Whole p) := by unfold Whole; infer_instance
def sodsTo (F : Work) (l : List T3) : Nat → Int
  | 0 => 0
  | k + 1 => sodsTo F l k + (if Whole (l.getD k default) then (F.heaps.getD k default).sods else 0)
def sodsR (F : Work) (l : List T3) : Int := sodsTo F l l.length
end Foot4

namespace Foot4
open Go Go.G
theorem wet_same {F : Work} {heap n : Nat} {p q : T3} (hadv : ∀ d k : Nat, d < n → k ≤ 3 → (∀ j, j < k → 0 ≤ p.at j ∧ p.at j ≤ d) → ((adv p d k : Nat) : Int) = Done q d) :
    wetF selW F heap p n = worstTo F heap q n ∧ wetF selD F heap p n = bestTo F heap q n := by
  have key : ∀ (sel : Int → Int → Int) (x : Nat → Int) , (x 0 = sel (F.heaps.getD heap default).lo (F.heaps.getD heap default).hi) →
      (∀ d, x (d + 1) = if Done q d < 3 then step (x d) (sel (F.rain.getD d default).lo (F.rain.getD d default).hi) (F.dr.at (Done q d).toNat) else x d) →
      ∀ m, m ≤ n → (wetS sel F heap p m).1 = x m ∧ (wetS sel F heap p m).2 ≤ 3 ∧ (∀ j, j < (wetS sel F heap p m).2 → 0 ≤ p.at j ∧ p.at j ≤ (m : Int) - 1) := by
    intro sel x h0 hs m
    induction m with
    | zero =>
      intro _
      exact ⟨h0.symm, Nat.zero_le _, fun j hj => absurd hj (Nat.not_lt_zero _)⟩
    | succ m ih =>
      intro hm
      obtain ⟨i1, i2, i3⟩ := ih (by omega)
      have ha := hadv m (wetS sel F heap p m).2 (by omega) i2 (fun j hj => by have := i3 j hj; omega)
      have hd : ∀ f k, (∀ j, j < k → 0 ≤ p.at j ∧ p.at j ≤ (m : Int)) → ∀ j, j < advF p m f k → 0 ≤ p.at j ∧ p.at j ≤ (m : Int) := by
        intro f
        induction f with
        | zero => intro k h j hj; exact h j hj
        | succ f ihf =>
          intro k h j hj
          simp only [advF] at hj
          split at hj
          · rename_i hc
            exact ihf (k + 1) (fun j hj => by
              by_cases e : j = k
              · subst e; exact hc
              · exact h j (by omega)) j hj
          · exact h j hj
      have hdone : ∀ j, j < adv p m (wetS sel F heap p m).2 → 0 ≤ p.at j ∧ p.at j ≤ (m : Int) := hd _ _ (fun j hj => by have := i3 j hj; omega)
      have hle := adv_le (p := p) (d := (m : Int)) i2
      simp only [wetS, hs, ← ha]
      by_cases h3 : adv p m (wetS sel F heap p m).2 = 3
      · rw [if_pos h3, if_neg (by omega)]
        refine ⟨i1, Nat.le_refl 3, fun j hj => ?_⟩
        have := hdone j (by rw [h3]; exact hj)
        omega
      · rw [if_neg h3, if_pos (by omega), i1]
        refine ⟨by simp, hle, fun j hj => ?_⟩
        have := hdone j hj
        omega
  exact ⟨(key selW (worstTo F heap q) rfl (fun d => rfl) n (Nat.le_refl n)).1, (key selD (bestTo F heap q) rfl (fun d => rfl) n (Nat.le_refl n)).1⟩
theorem Done_eq {q : T3} {d : Int} : Done q d = (if 0 ≤ q.a ∧ q.a ≤ d then 1 else 0) + (if 0 ≤ q.b ∧ q.b ≤ d then 1 else 0) + (if 0 ≤ q.c ∧ q.c ≤ d then 1 else 0) := by
  simp [Done, doneTo, T3.at]
theorem adv_eq {p : T3} {d : Int} {k : Nat} (hk : k ≤ 3) (h : ∀ j, j < k → 0 ≤ p.at j ∧ p.at j ≤ d) : adv p d k = adv p d 0 := by
  induction k with
  | zero => rfl
  | succ k ih =>
    rw [← ih (by omega) (fun j hj => h j (by omega))]
    exact (adv_go ⟨by omega, h k (by omega)⟩).symm
theorem adv_0 {p : T3} {d : Int} : adv p d 0 = if 0 ≤ p.a ∧ p.a ≤ d then (if 0 ≤ p.b ∧ p.b ≤ d then (if 0 ≤ p.c ∧ p.c ≤ d then 3 else 2) else 1) else 0 := by
  simp [adv, advF, T3.at]
theorem adv_done {A B C : Prop} [Decidable A] [Decidable B] [Decidable C] (h1 : B → A) (h2 : C → B) : ((if A then if B then if C then 3 else 2 else 1 else 0 : Nat) : Int) = (if A then 1 else 0) + (if B then 1 else 0) + (if C then 1 else 0) := by
  by_cases a : A <;> by_cases b : B <;> by_cases c : C <;> simp_all
theorem ord1 {p : T3} : Ordered p 1 ↔ p.b < 0 ∨ (0 ≤ p.a ∧ p.a < p.b) := by simp [Ordered, T3.at]
theorem ord2 {p : T3} : Ordered p 2 ↔ p.c < 0 ∨ (0 ≤ p.b ∧ p.b < p.c) := by simp [Ordered, T3.at]
theorem plan_wet {F : Work} {heap n m : Nat} {p : T3} (h : IsPlan m p) : wetF selW F heap p n = worstTo F heap p n ∧ wetF selD F heap p n = bestTo F heap p n := by
  refine wet_same fun d k _ hk hj => ?_
  rw [adv_eq hk hj, adv_0, Done_eq]
  have h1 := ord1.1 h.2.2.1
  have h2 := ord2.1 h.2.2.2
  exact adv_done (by omega) (by omega)
theorem can_ok {F : Work} {heap m : Nat} {p : T3} (h : IsPlan m p) (k : Nat) : (canF selW F heap p k ↔ okStep F worstTo heap p k) ∧ (canF selD F heap p k ↔ okStep F bestTo heap p k) := by
  obtain ⟨h1, h2⟩ := plan_wet (F := F) (heap := heap) (n := (p.at k).toNat) h
  unfold canF okStep
  rw [h1, h2]
  exact ⟨Iff.rfl, Iff.rfl⟩
theorem withTo_at {B : List Int} {p : T3} {d : Int} (hB : B.length = 8) (hd : 0 ≤ d ∧ d ≤ 7) (hp : ∀ k, k < 3 → p.at k ≤ 7) : ∀ k, k ≤ 3 → (withTo B p k).getD d.toNat 0 = B.getD d.toNat 0 + cnt p d k
  | 0, _ => by simp [withTo, cnt]
  | k + 1, hk => by
    have ih := withTo_at hB hd hp k (by omega)
    have hl := withTo_len B p k
    have h7 := hp k (by omega)
    simp only [withTo, cnt]
    by_cases h0 : 0 ≤ p.at k
    · rw [if_pos h0]
      by_cases e : p.at k = d
      · rw [if_pos e, e]
        simp only [List.getD_eq_getElem?_getD]
        rw [List.getElem?_set_self (by omega)]
        simp only [List.getD_eq_getElem?_getD] at ih
        simp only [Option.getD_some]
        rw [ih]; omega
      · rw [if_neg e]
        simp only [List.getD_eq_getElem?_getD]
        rw [List.getElem?_set_ne (by omega)]
        simp only [List.getD_eq_getElem?_getD] at ih
        rw [ih]; omega
    · rw [if_neg h0, if_neg (by omega), ih]; omega
end Foot4

namespace Foot4
open Go Go.G
end Foot4
