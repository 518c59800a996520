/- Part 3 of 5 of what the proofs of this seat stand on: a small logic for walks, what the functions come to, and the walks themselves. No condition of its own. -/
import Derived.Test.YtpndeonmmcaikaaGreatM2
import Derived.WideKeyEntry
import Derived.Test.YtpndeonmmcaikaaGreatM1
import Derived.LoopNIn
import Derived.TacticsIn
set_option linter.unusedVariables false
set_option linter.unusedSimpArgs false
set_option linter.unusedSectionVars false
namespace Go.G
open MapKept
variable {P : Program} {W : World} {n : Nat} {D : List Deferred} {L : Tm} {M : List Res} {R : List Fact} {Q : Exit → Act → World → Prop} {o : Oper}
abbrev Cont := Value → Option Value
structure Holds (P : Program) (k : TypeId) (G : Cont) (es : Array MapEntry) (clock : Nat) : Prop where
  st : Stamped es clock
  keys : ∀ e ∈ es.toList, ∃ l, keyOf P k e.key = some l
  yes : ∀ e ∈ es.toList, G e.key = some e.val
  no : ∀ kv, (∀ e ∈ es.toList, e.key ≠ kv) → G kv = none
def mapG (P : Program) (k : TypeId) (b : Nat) (G : Cont) : Res := fun s => ∃ es clock, s = [(b, .map es clock)] ∧ Holds P k G es clock
noncomputable def Cont.put (G : Cont) (kv u : Value) : Cont := fun x => match Classical.propDecidable (x = kv) with
  | .isTrue _ => some u
  | .isFalse _ => G x
theorem Cont.put_eq (G : Cont) (kv u : Value) : G.put kv u kv = some u := by
  unfold Cont.put; split
  · rfl
  · rename_i h _; exact absurd rfl h
theorem Cont.put_ne (G : Cont) {kv x : Value} (u : Value) (h : x ≠ kv) : G.put kv u x = G x := by
  unfold Cont.put; split
  · rename_i h2 _; exact absurd h2 h
  · rfl
theorem Holds.empty (P : Program) (k : TypeId) : Holds P k (fun _ => none) #[] 0 :=
  ⟨⟨fun x hx => by simp at hx, by simp, by simp⟩, fun e he => by simp at he, fun e he => by simp at he, fun _ _ => rfl⟩
theorem mapG_at {k : TypeId} {b : Nat} {G : Cont} {M' : List Res} {w : World} (h : St W M R w) (hd : Del M (mapG P k b G) M') : ∃ es clock, w.heap[b]? = some (.map es clock) ∧ Holds P k G es clock := by
  obtain ⟨s, ⟨s1, s2, _, ⟨es, clock, rfl, hh⟩, _⟩, hO, _⟩ := (h.perm hd.perm).mem
  exact ⟨es, clock, hO.at_ (b, .map es clock) (by simp_all), hh⟩
theorem o_makeMapG {ops : Array Oper} {rest : List Oper} {T k : TypeId} {d : Nat} (ho : o.op = .makeMap T none) (hg : o.guard = none) (hdst : o.dst = some d) (hd : Nat.blt d n = true)
    (h : ∀ b, Imp W n D ((d, .map (some b)) :: L) (mapG P k b (fun _ => none) :: M) R (wpList P ops Q rest)) : Imp W n D L M R (wpList P ops Q (o :: rest)) := by
  intro a w h1 h2 h3
  refine wpList_plain hg fun K hK => ?_
  unfold Oper.wp
  have hrun : (execOp a.eval o).run P w = .ok (.value (.map (some w.heap.size))) (w.alloc (.map #[] 0)) := by
    unfold execOp
    simp only [ho]
    rfl
  rw [hrun, Oper.upon_value, hdst]
  refine hK _ _ (h w.heap.size _ _ (h1.put (by simpa using hd) _) (by rw [put_defers]; exact h2) ?_)
  have h4 := h3.push (.map #[] 0)
  obtain ⟨s, ⟨s1, s2, rfl, hs1, hM⟩, hO, hR⟩ := h4.mem
  exact ⟨h4.os, h4.tape, h4.output, s1 ++ s2, ⟨s1, s2, rfl, ⟨#[], 0, hs1, Holds.empty P k⟩, hM⟩, hO, hR⟩
theorem v_lookG {k T e : TypeId} {b : Nat} {kv z : Value} (G : Cont) {M' : List Res} {l : Lit} {i : TypeInfo} {x y : Operand} {cm : Bool} (r : Option Value) [hM : DelC M (mapG P k b G) M'] (hl : WideMaps.KeyLaw P k) (hk : keyOf P k kv = some l)
    (ho : o.op = .lookup T x y cm) (hT : P.underlying T = some (.map k e)) (hi : P.info? e = some i) (hz : i.zero = some z) (hr : G kv = r) (hx : ev L x = some (.map (some b))) (hy : ev L y = some kv) :
    OpQ P W n L M R o (if cm then .tuple #[r.getD z, .bool r.isSome] else r.getD z) :=
  OpQ.of_value fun a w g1 g3 => by
    obtain ⟨es, clock, hb, hh⟩ := mapG_at g3 hM.del
    have e1 := g1.ev hx
    have e2 := g1.ev hy
    have hz' : (zeroValue e).run P w = .ok z w := run_zeroValue' hi hz
    rcases hl.find w hk es.toList hh.keys with ⟨hf, hne⟩ | ⟨j, e', hf, hj, he'⟩
    · have h2 := hh.no kv hne
      rw [hr] at h2; subst h2
      unfold execOp
      cases cm <;> simp [ho, e1, e2, Instr.lookup, run_underlying hT, getObj, Sem.run, hb, hl.check w _ hk, hf, hz', Sem.run_bind, Sem.run_pure, Result.andThen]
    · have h2 := hh.yes e' (List.mem_of_getElem? hj)
      rw [he', hr] at h2; subst h2
      unfold execOp
      cases cm <;> simp [ho, e1, e2, Instr.lookup, run_underlying hT, getObj, Sem.run, hb, hl.check w _ hk, hf, Sem.run_bind, Sem.run_pure, Result.andThen]
theorem St.setMap {w : World} {b : Nat} {r r' : Res} {y : Obj} {x : Obj} {M' : List Res} (h : St W M R w) (hd : Del M r M') (hr : ∀ s, r s → ∃ x, s = [(b, x)]) (hr' : r' [(b, y)]) : St W (r' :: M') R (w.putObj b y) := by
  have h4 := h.perm hd.perm
  refine h4.replace (M' := r' :: M') Upd.here rfl rfl rfl ?_
  intro s hs hO
  obtain ⟨x, rfl⟩ := hr s hs
  have hlt : b < w.heap.size := (Array.getElem?_eq_some_iff.1 (hO.at_ (b, x) (by simp))).1
  refine ⟨[(b, y)], hr', ⟨by simp [keys], ?_⟩, ?_, ?_⟩
  · intro p hp
    have : p = (b, y) := by simpa using hp
    subst this
    exact World.putObj_heap_same hlt
  · intro c hc; exact .inl (by simpa [keys] using hc)
  · intro c _ hc
    exact World.putObj_heap_other (by intro e; subst e; exact hc (by simp [keys]))
theorem o_mapUpdG {ops : Array Oper} {rest : List Oper} {T k e : TypeId} {x y v : Operand} {b : Nat} {kv u : Value} {l : Lit} {G : Cont} {M' : List Res} [hM : DelC M (mapG P k b G) M'] (hl : WideMaps.KeyLaw P k) (hk : keyOf P k kv = some l)
    (ho : o.op = .mapUpdate T x y v) (hT : P.underlying T = some (.map k e)) (hg : o.guard = none) (hdst : o.dst = none)
    (hx : ev L x = some (.map (some b))) (hy : ev L y = some kv) (hv : ev L v = some u)
    (h : Imp W n D L (mapG P k b (G.put kv u) :: M') R (wpList P ops Q rest)) : Imp W n D L M R (wpList P ops Q (o :: rest)) := by
  intro a w h1 h2 h3
  refine wpList_plain hg fun K hK => ?_
  unfold Oper.wp
  obtain ⟨es, clock, hb, hh⟩ := mapG_at h3 hM.del
  have one : ∀ s, mapG P k b G s → ∃ x, s = [(b, x)] := fun s ⟨es, c, hs, _⟩ => ⟨_, hs⟩
  obtain ⟨s1, s2, s3⟩ := hh.st
  have key : ∀ ρ : Operand → Value, ρ x = .map (some b) → ρ y = kv → ρ v = u → ∃ es' clock', (execOp ρ o).run P w = .ok .skip (w.putObj b (.map es' clock')) ∧ Holds P k (G.put kv u) es' clock' := by
    intro ρ e1 e2 e3
    rcases hl.find w hk es.toList hh.keys with ⟨hf, hne⟩ | ⟨j, e0, hf, hj, he0⟩
    · refine ⟨es.push { key := kv, val := u, born := clock }, clock + 1, ?_, ⟨?_, ?_, ?_⟩, ?_, ?_, ?_⟩
      · unfold execOp
        simp [ho, e1, e2, e3, Instr.mapUpdate, run_underlying hT, getObj, setObj, Sem.run, hb, hl.check w _ hk, hf, Sem.run_bind, Sem.run_pure, Result.andThen, World.putObj]
      · intro e he
        rcases List.mem_append.1 (by simpa using he : e ∈ es.toList ++ [{ key := kv, val := u, born := clock }]) with he | he
        · have := s1 e he; omega
        · have : e = { key := kv, val := u, born := clock } := by simpa using he
          subst this; show clock < clock + 1; omega
      · simp only [Array.toList_push, List.map_append, List.map_cons, List.map_nil]
        refine List.nodup_append.2 ⟨s2, by simp, fun p hp q hq e1 => ?_⟩
        simp only [List.mem_singleton] at hq
        obtain ⟨x, hx, rfl⟩ := List.mem_map.1 hp
        have := s1 x hx
        omega
      · simp only [Array.toList_push, List.map_append, List.map_cons, List.map_nil]
        refine List.nodup_append.2 ⟨s3, by simp, fun p hp q hq e1 => ?_⟩
        simp only [List.mem_singleton] at hq
        obtain ⟨x, hx, rfl⟩ := List.mem_map.1 hp
        exact hne x hx (e1.trans hq)
      · intro e he
        rcases List.mem_append.1 (by simpa using he : e ∈ es.toList ++ [{ key := kv, val := u, born := clock }]) with he | he
        · exact hh.keys e he
        · have : e = { key := kv, val := u, born := clock } := by simpa using he
          subst this; exact ⟨l, hk⟩
      · intro e he
        rcases List.mem_append.1 (by simpa using he : e ∈ es.toList ++ [{ key := kv, val := u, born := clock }]) with he | he
        · rw [G.put_ne u (hne e he)]; exact hh.yes e he
        · have : e = { key := kv, val := u, born := clock } := by simpa using he
          subst this; exact G.put_eq kv u
      · intro x hx
        have hxk : x ≠ kv := fun e1 => by subst e1; exact hx { key := x, val := u, born := clock } (by simp) rfl
        rw [G.put_ne u hxk]
        exact hh.no x fun e he => hx e (by simp [he])
    · have hj' : es[j]? = some e0 := by simpa using hj
      have hst := hl.stays w hk
      have hget : ∀ m, (es.modify j fun e => { e with key := kv, val := u }).toList[m]? = if j = m then some { e0 with val := u } else es.toList[m]? := fun m => by
        rw [Array.getElem?_toList, Array.getElem?_modify, Array.getElem?_toList]
        split
        · rename_i e; subst e; rw [hj', ← he0]; rfl
        · rfl
      have hmem : ∀ e, e ∈ (es.modify j fun e => { e with key := kv, val := u }).toList → e = { e0 with val := u } ∨ (e ∈ es.toList ∧ e.key ≠ kv) := fun e he => by
        obtain ⟨m, hm⟩ := List.mem_iff_getElem?.1 he
        rw [hget] at hm
        split at hm
        · exact .inl (Option.some.inj hm).symm
        · rename_i hjm
          refine .inr ⟨List.mem_of_getElem? hm, fun hk2 => ?_⟩
          have n1 : (es.toList.map (·.key))[j]? = some kv := by rw [List.getElem?_map, hj]; simp [he0]
          have n2 : (es.toList.map (·.key))[m]? = some kv := by rw [List.getElem?_map, hm]; simp [hk2]
          have l1 := (List.getElem?_eq_some_iff.1 n1)
          have l2 := (List.getElem?_eq_some_iff.1 n2)
          exact hjm ((List.getElem_inj s3).1 (l1.2.trans l2.2.symm))
      have he0m : e0 ∈ es.toList := List.mem_of_getElem? hj
      have hmapK : (es.modify j fun e => { e with key := kv, val := u }).toList.map (·.key) = es.toList.map (·.key) := by
        apply List.ext_getElem?
        intro m
        rw [List.getElem?_map, List.getElem?_map, hget]
        split
        · rename_i e; subst e; rw [hj]; rfl
        · rfl
      have hmapB : (es.modify j fun e => { e with key := kv, val := u }).toList.map (·.born) = es.toList.map (·.born) := by
        apply List.ext_getElem?
        intro m
        rw [List.getElem?_map, List.getElem?_map, hget]
        split
        · rename_i e; subst e; rw [hj]; rfl
        · rfl
      refine ⟨es.modify j fun e => { e with key := kv, val := u }, clock, ?_, ⟨?_, by rw [hmapB]; exact s2, by rw [hmapK]; exact s3⟩, ?_, ?_, ?_⟩
      · unfold execOp
        simp [ho, e1, e2, e3, Instr.mapUpdate, run_underlying hT, getObj, setObj, Sem.run, hb, hl.check w _ hk, hf, hj', he0, hst, Sem.run_bind, Sem.run_pure, Result.andThen, World.putObj]
      · intro e he
        rcases hmem e he with rfl | ⟨he, _⟩
        · exact s1 e0 he0m
        · exact s1 e he
      · intro e he
        rcases hmem e he with rfl | ⟨he, _⟩
        · exact hh.keys e0 he0m
        · exact hh.keys e he
      · intro e he
        rcases hmem e he with rfl | ⟨he, hn⟩
        · show G.put kv u e0.key = some u
          rw [he0]; exact G.put_eq kv u
        · rw [G.put_ne u hn]; exact hh.yes e he
      · intro x hx
        have hxk : x ≠ kv := fun e1 => by
          subst e1
          exact (hx { e0 with val := u } (List.mem_of_getElem? (i := j) (by rw [hget, if_pos rfl])) he0).elim
        rw [G.put_ne u hxk]
        refine hh.no x fun e he hke => ?_
        obtain ⟨m, hm⟩ := List.mem_iff_getElem?.1 he
        have hjm : j ≠ m := fun e1 => by
          subst e1
          rw [hj] at hm
          have := Option.some.inj hm
          subst this
          exact hxk (hke.symm.trans he0)
        exact hx e (List.mem_of_getElem? (i := m) (by rw [hget, if_neg hjm]; exact hm)) hke
  obtain ⟨es', clock', hr, hh'⟩ := key _ (h1.ev hx) (h1.ev hy) (h1.ev hv)
  rw [hr, Oper.upon_skip, hdst]
  exact hK _ _ (h a _ h1 h2 (h3.setMap (x := .map es clock) hM.del one ⟨_, _, rfl, hh'⟩))
end Go.G

namespace Go.G
variable {P : Program} {W : World} {n m : Nat} {D : List Deferred} {L : Tm} {M : List Res} {R : List Fact} {Q : Exit → Act → World → Prop} {o : Oper} {F : Fence}
def YieldsG {α γ : Type} (P : Program) (W : World) (l : Nat) (enc : α → List Value) (xs : List α) (J : γ → Nat → Res) (F : γ → Nat → Fact) (Rf : List Fact) : Prop :=
  ∀ i x, xs[i]? = some x → ∀ g Mi Ri w, St W (J g i :: Mi) (F g i :: (Ri ++ Rf)) w → YieldAt Fence.wide 0 P l (enc x).toArray w fun e w' => e = .returned (.bool true) ∧ ∃ g', St W (J g' (i + 1) :: Mi) (F g' (i + 1) :: (Ri ++ Rf)) w'
def RetSeqG {γ : Type} (W : World) (J : γ → Nat → Res) (F : γ → Nat → Fact) (N : Nat) (R : List Fact) (e : Ending) (w' : World) : Prop := (∃ v, e = .returned v) ∧ ∃ g, St W [J g N] (F g N :: R) w'
structure IsSeqG {α : Type} (P : Program) (g : FuncId) (lb : List Value) (Rs : List Fact) (enc : α → List Value) (xs : List α) : Prop where
  enter : ∀ (ag : Array Value) (w : World), (callFunc g ag).run P w = .ok (.enter g ag) w
  calls : ∀ {γ : Type} (l : Nat) (J : γ → Nat → Res) (F : γ → Nat → Fact) (g0 : γ) (W : World) (Rf : List Fact) (w : World), YieldsG P W l enc xs J F Rf → St W [J g0 0] (F g0 0 :: (Rs ++ Rf)) w → Calls P g (.func (.yield l) #[] #[] :: lb).toArray w (RetSeqG W J F xs.length (Rs ++ Rf))
theorem IsSeqG.intro {α : Type} {g : FuncId} {lb : List Value} {Rs : List Fact} {enc : α → List Value} {xs : List α} {fn : Func} {c : Code} (he : ∀ (ag : Array Value) (w : World), (callFunc g ag).run P w = .ok (.enter g ag) w)
    (hf : P.funcs[g]? = some fn) (hb : fn.body = some c) (hn : fn.ntmps = n) (ha : Nat.ble (lb.length + 1) n = true)
    (h : ∀ {γ : Type} l (J : γ → Nat → Res) (F : γ → Nat → Fact) (g0 : γ) W Rf, YieldsG P W l enc xs J F Rf → Imp W n [] (argsL (.func (.yield l) #[] #[] :: lb) 0) [J g0 0] (F g0 0 :: (Rs ++ Rf)) (c.wp P (bodyPost P fn (RetSeqG W J F xs.length (Rs ++ Rf))))) : IsSeqG P g lb Rs enc xs := by
  refine ⟨he, fun l J F g0 W Rf w hY hw => calls_of_wp hf hb ?_⟩
  rw [hn]
  exact h l J F g0 W Rf hY _ w (FSat.entry (by simpa using Nat.le_of_ble_eq_true ha)) rfl hw
theorem r_retseqG {γ : Type} {fn : Func} {J : γ → Nat → Res} {F : γ → Nat → Fact} {N : Nat} {R0 : List Fact} {v : Value} (g : γ) (i : Nat) (hi : i = N) (hr : Rd P W n L M R fn v) (hM : SelM M [J g i]) (hR : SubR R (F g i :: R0)) : Imp W n [] L M R (bodyPost P fn (RetSeqG W J F N R0) .normal) := by
  subst hi
  exact fun a w h1 h2 h3 => ⟨h2, v, hr a w h1 h3, ⟨v, rfl⟩, g, (h3.sel hM).weak hR⟩
theorem oi_yieldG {ops : Array Oper} {rest : List Oper} {x : Operand} {xs : List Operand} {ts : Array TypeId} {l d : Nat} {vs : List Value} {γ : Type} {M1 : γ → List Res} {R1 : γ → List Fact}
    (ho : o.op = .call { callee := .value x, args := xs.toArray, argTypes := ts }) (hx : ev L x = some (.func (.yield l) #[] #[])) (hxs : evs L xs = some vs) (hg : o.guard = none) (hdst : o.dst = some d) (hd : Nat.blt d n = true)
    (hY : ∀ w, St W M R w → YieldAt Fence.wide 0 P l vs.toArray w fun e w' => e = .returned (.bool true) ∧ ∃ g, St W (M1 g) (R1 g) w')
    (h1 : ∀ g, Imp W n D ((d, .bool true) :: L) (M1 g) (R1 g) (wpListIn Fence.wide 0 P ops Q rest)) : Imp W n D L M R (wpListIn Fence.wide 0 P ops Q (o :: rest)) := by
  intro a w g1 g2 g3
  refine wpListIn_plain hg fun K hK => ⟨fun _ _ => trivial, ?_⟩
  rw [Oper.semAt_eq _ _ _ (fun c e => by rw [e] at ho; cases ho)]
  obtain ⟨fn, tmps, assign, body, hy, hr⟩ := hY w g3
  have hrun : (execOp a.eval o).run P w = .ok (.round l fn tmps assign body) w := by
    unfold execOp
    simp only [ho, resolve, g1.ev hx, Deferred.ofValue, Sem.run_bind, Sem.run_pure, Result.andThen_ok, invoke, List.map_toArray, g1.evs hxs]
    simpa using hy
  rw [hrun]
  refine ⟨fun h => (by cases h), hr.mono ?_⟩
  rintro e w' ⟨rfl, g, h⟩
  show K (a.put o.dst _) w'
  rw [hdst]
  exact hK _ _ (h1 g _ w' (g1.put (by simpa using hd) _) (by rw [put_defers]; exact g2) h)
def RoundG {γ : Type} (W : World) (J : γ → Nat → Res) (F : γ → Nat → Fact) (i : Nat) (M : List Res) (R : List Fact) : Exit → Act → World → Prop
  | .normal, _, w => ∃ g, St W (J g i :: M) (F g i :: R) w
  | _, _, _ => False
theorem r_roundG {γ : Type} {J : γ → Nat → Res} {F : γ → Nat → Fact} {i : Nat} {M0 : List Res} {R0 : List Fact} (g : γ) (hM : SelM M (J g i :: M0)) (hR : SubR R (F g i :: R0)) : Imp W n D L M R (RoundG W J F i M0 R0 .normal) :=
  fun _ _ _ _ h3 => ⟨g, (h3.sel hM).weak hR⟩
theorem r_roundG2 {γ : Type} {r1 r2 : γ → Nat → Res} {F : γ → Nat → Fact} {i : Nat} {M0 : List Res} {R0 : List Fact} (g : γ) (hM : SelM M (r1 g i :: r2 g i :: M0)) (hR : SubR R (F g i :: R0)) : Imp W n D L M R (RoundG W (fun g i => exR fun (_ : Unit) => [r1 g i, r2 g i]) F i M0 R0 .normal) :=
  fun _ _ _ _ h3 => ⟨g, St.pk () ((h3.sel hM).weak hR)⟩
theorem r_rangeG {α γ : Type} {g : Operand} {ps : List Tmp} {assign body : Code} {gf : FuncId} {lb : List Value} {enc : α → List Value} {xs : List α} {Rs : List Fact} {M0 : List Res} {M1 : List Res}
    (hs : IsSeqG P gf lb Rs enc xs) (hg : ev L g = some (.func (.func gf) #[] lb.toArray)) (hR : SubR R Rs) (hps : ∀ x, (enc x).length = ps.length) (hpn : ps.all (fun p => Nat.blt p n) = true)
    (J : γ → Nat → Res) (F : γ → Nat → Fact) (g0 : γ) (hM : SelM M M1) (h0 : ∀ w, St W M1 R w → St W (J g0 0 :: M0) (F g0 0 :: R) w)
    (hround : ∀ l i x, xs[i]? = some x → ∀ gh Mi Ri rdy bsy, Beg P l rdy bsy → Imp W n [] (putAll ps (enc x) L) (J gh i :: rdy :: Mi) (F gh i :: (Ri ++ R))
      (assign.wpIn (Fence.wide.inRound l) 0 P (Exit.then (fun a w => ∃ w₂, (Instr.beginRound l).run P w = .ok () w₂ ∧ body.wpIn (Fence.wide.inRound l) 0 P (RoundG W J F (i + 1) (bsy :: Mi) (Ri ++ R)) a w₂) (fun _ _ _ => False))))
    (hdone : ∀ gh db, Imp W n (mark db :: D) L (J gh xs.length :: bl db (.deferred (some [])) :: M0) (F gh xs.length :: R) (Q .normal)) : Imp W n D L M R ((Code.rangeFunc g ps.toArray assign body).wp P Q) := by
  intro a w h1 h2 h3
  refine (wpIn_wide (n := 0)).1 (wpIn_rangeFunc fun fn _ => ?_)
  have h4 := h0 w (h3.sel hM)
  obtain ⟨rec, hrec⟩ : ∃ rec : LoopState → Option Code → Loop, rec = fun st pe => { state := st, pending := pe, fn, tmps := a.tmps, params := ps.toArray, assign, body, defers := w.heap.size } := ⟨_, rfl⟩
  have h5 := (h4.push (.deferred (some []))).push (.loop (rec .ready none))
  have hsz : (w.alloc (.deferred (some []))).heap.size = w.heap.size + 1 := World.size_alloc _ _
  rw [hsz] at h5
  obtain ⟨W1, hW1⟩ : ∃ W1, (w.alloc (.deferred (some []))).alloc (.loop (rec .ready none)) = W1 := ⟨_, rfl⟩
  rw [hW1] at h5
  refine ⟨w.heap.size + 1, [mark w.heap.size], W1, { target := .fn (.func gf) lb.toArray, args := #[.func (.yield (w.heap.size + 1)) #[] #[]] }, W1, gf,
    #[.func (.yield (w.heap.size + 1)) #[] #[]] ++ lb.toArray, W1, ?_, ?_, fun _ _ => trivial, ?_, (fun h => by cases h), ?_⟩
  · rw [← hW1, hrec]; exact run_enterLoop_outer _ _ _ _ _
  · simp only [resolve, h1.ev hg]
    simp [go_sem]
  · simp [invoke, hs.enter]
  · refine callsIn_wide.2 ?_
    have hbeg : Beg P (w.heap.size + 1) (bl (w.heap.size + 1) (.loop (rec .ready none))) (bl (w.heap.size + 1) (.loop { rec .ready none with state := .busy })) := by
      refine ⟨fun W M M' R w' hw hd => ?_⟩
      have hl := (hw.perm hd.perm).bl (b := w.heap.size + 1) (o := .loop (rec .ready none)) (by simp)
      exact ⟨_, run_beginRound hl (by rw [hrec]), (hw.perm hd.perm).putBl _ Upd.here⟩
    have := hs.calls (w.heap.size + 1)
      (fun gh i => exR fun (_ : Unit) => J gh i :: bl (w.heap.size + 1) (.loop (rec .ready none)) :: bl w.heap.size (.deferred (some [])) :: M0)
      (fun gh i => F gh i) g0
      W R W1 ?_ ?_
    · rw [show #[Value.func (.yield (w.heap.size + 1)) #[] #[]] ++ lb.toArray = (Value.func (.yield (w.heap.size + 1)) #[] #[] :: lb).toArray from by simp]
      refine this.mono ?_
      rintro e w2 ⟨⟨v, rfl⟩, gh, h⟩
      obtain ⟨_, h⟩ := h.unpk
      have h' := h.weak (R' := F gh xs.length :: R) (fun φ hφ => by
        rcases List.mem_cons.1 hφ with rfl | hφ
        · exact List.mem_cons_self ..
        · exact List.mem_cons_of_mem _ (List.mem_append_right _ hφ))
      have hl := h'.bl (b := w.heap.size + 1) (o := .loop (rec .ready none)) (by simp)
      refine ⟨none, _, by have := run_endLoop (P := P) hl (by rw [hrec]; simp); rw [hrec] at this; exact this, ?_⟩
      have h6 := h'.putBl (l := w.heap.size + 1) (x := .loop (rec .ready none)) (.loop { rec .ready none with state := .exhausted }) (Upd.there Upd.here)
      refine hdone gh w.heap.size { a with defers := [mark w.heap.size] ++ a.defers } _ ⟨h1.size, h1.vals⟩ (by rw [h2]; rfl) ?_
      rw [hrec] at h6
      exact ((h6.perm (List.Perm.swap _ _ _)).drop).weak (fun _ h => h) |>.perm (by simp)
    · intro i x hx gh Mi Ri w1 hw1
      obtain ⟨_, h6⟩ := hw1.unpk
      simp only [List.cons_append] at h6
      have hl := h6.bl (b := w.heap.size + 1) (o := .loop (rec .ready none)) (by simp)
      have hz : (ps.toArray.zip (enc x).toArray).foldl (fun t (p, v) => t.setIfInBounds p v) a.tmps = (ps.zip (enc x)).foldl (fun t (p, v) => t.setIfInBounds p v) a.tmps := by simp
      refine ⟨fn, (ps.zip (enc x)).foldl (fun t (p, v) => t.setIfInBounds p v) a.tmps, assign, body, ?_, roundIn_of_wpIn trivial ?_⟩
      · have := run_yield (P := P) (args := (enc x).toArray) hl (by rw [hrec]; simpa using hps x)
        rw [hrec] at this
        rw [← hz]
        exact this
      · have hF := FSat.putAll (t := a.tmps) ps (enc x) hpn ⟨h1.size, h1.vals⟩
        have hrd := hround (w.heap.size + 1) i x hx gh (bl w.heap.size (.deferred (some [])) :: (M0 ++ Mi)) Ri _ _ hbeg _ w1 hF rfl h6
        refine Go.wpIn_mono hrd ?_
        rintro e a2 w2 h7
        cases e with
        | normal =>
          obtain ⟨w3, hb3, h8⟩ := h7
          refine ⟨w3, hb3, Go.wpIn_mono h8 ?_⟩
          rintro e a4 w4 h9
          have fin : ∀ (X : Res) (Y : Fact) (jump : Option Code), St W (X :: bl (w.heap.size + 1) (.loop { rec .ready none with state := .busy }) :: bl w.heap.size (.deferred (some [])) :: (M0 ++ Mi)) (Y :: (Ri ++ R)) w4 →
              ∃ w5, (Instr.endRound (w.heap.size + 1) jump).run P w4 = .ok (.bool jump.isNone) w5 ∧ St W (X :: bl (w.heap.size + 1) (.loop (rec (if jump.isNone then .ready else .done) jump)) :: bl w.heap.size (.deferred (some [])) :: (M0 ++ Mi)) (Y :: (Ri ++ R)) w5 := by
            intro X Y jump h10
            have hl3 := h10.bl (b := w.heap.size + 1) (o := .loop { rec .ready none with state := .busy }) (by simp)
            refine ⟨_, run_endRound jump hl3, ?_⟩
            have := h10.putBl (l := w.heap.size + 1) (x := .loop { rec .ready none with state := .busy }) (.loop (rec (if jump.isNone then .ready else .done) jump)) (Upd.there Upd.here)
            rw [hrec] at this ⊢
            exact this
          cases e with
          | normal =>
            obtain ⟨gh', h9⟩ := h9
            obtain ⟨w5, hr5, h10⟩ := fin _ _ none h9
            exact ⟨_, w5, hr5, rfl, gh', St.pk () (by simpa using h10)⟩
          | ret => exact h9.elim
          | exit id => exact h9.elim
          | goto t => exact h9.elim
          | panic c => exact h9.elim
          | outgrown => exact h9.elim
        | ret => exact h7.elim
        | exit id => exact h7.elim
        | goto t => exact h7.elim
        | panic c => exact h7.elim
        | outgrown => exact h7.elim
    · refine St.pk () ?_
      have h7 : St W (J g0 0 :: bl (w.heap.size + 1) (.loop (rec .ready none)) :: bl w.heap.size (.deferred (some [])) :: (M0 ++ [])) (F g0 0 :: R) W1 := h5.perm (by
        simp only [List.append_nil]
        exact ((List.Perm.swap _ _ _).cons _).trans (List.Perm.swap _ _ _))
      refine h7.weak fun φ hφ => ?_
      rcases List.mem_cons.1 hφ with rfl | hφ
      · exact List.mem_cons_self ..
      · rcases List.mem_append.1 hφ with hφ | hφ
        · exact List.mem_cons_of_mem _ (hR φ hφ)
        · exact List.mem_cons_of_mem _ hφ
theorem FnS.introM {k : FuncId} {args : List Value} {M0 : List Res} {R0 : List Fact} {Post : Ending → List Res → List Fact → Prop} {fn : Func} {c : Code} (he : ∀ (ag : Array Value) (w : World), (callFunc k ag).run P w = .ok (.enter k ag) w)
    (hf : P.funcs[k]? = some fn) (hb : fn.body = some c) (hn : fn.ntmps = n) (ha : Nat.ble args.length n = true)
    (h : ∀ W Mf Rf, Imp W n [] (argsL args 0) (M0 ++ Mf) (R0 ++ Rf) (c.wp P (bodyPostM Fence.wide 0 P fn (RetE W Mf (R0 ++ Rf) Post)))) : FnS P k args M0 R0 Post := by
  refine ⟨he, fun W Mf Rf w hw => (callsIn_wide (n := 0)).1 (callsIn_of_wp_marks hf hb trivial (wpIn_wide.2 ?_))⟩
  rw [hn]
  exact h W Mf Rf _ w (FSat.entry (Nat.le_of_ble_eq_true ha)) rfl hw
theorem FnS.introM1 {k : FuncId} {args : List Value} {r : Res} {R0 : List Fact} {Post : Ending → List Res → List Fact → Prop} {fn : Func} {c : Code} (he : ∀ (ag : Array Value) (w : World), (callFunc k ag).run P w = .ok (.enter k ag) w)
    (hf : P.funcs[k]? = some fn) (hb : fn.body = some c) (hn : fn.ntmps = n) (ha : Nat.ble args.length n = true)
    (h : ∀ W Mf Rf, Imp W n [] (argsL args 0) (r :: Mf) (R0 ++ Rf) (c.wp P (bodyPostM Fence.wide 0 P fn (RetE W Mf (R0 ++ Rf) Post)))) : FnS P k args [r] R0 Post := FnS.introM he hf hb hn ha h
end Go.G

namespace Go.G
variable {P : Program} {W : World} {n : Nat} {D : List Deferred} {L : Tm} {M : List Res} {R : List Fact} {Q : Exit → Act → World → Prop} {o : Oper} {F : Fence} {m0 : Nat}
theorem anyIn_of_any {ops : Array Oper} (hF : WideF P F) (hnd : ∀ (i : Nat) (o : Oper), ops[i]? = some o → noDefer o.op = true) (hno : ∀ a w, Q .outgrown a w → False) : ∀ {fuel : Nat} {listed : Array Bool} {a : Act} {w : World}, wpAny P .any ops Q fuel listed a w → wpAnyIn F m0 P .any ops Q fuel listed a w
  | 0, _, _, _, h => h
  | fuel + 1, listed, a, w, h => by
    refine ⟨h.1, fun i hi => ?_⟩
    have h2 := h.2 i hi
    unfold wpOp at h2
    unfold wpOpIn
    cases ho : ops[i]? with
    | none =>
      rw [ho] at h2
      exact anyIn_of_any hF hnd hno h2
    | some o =>
      rw [ho] at h2
      dsimp only at h2 ⊢
      split
      · rename_i hw
        rw [if_pos hw] at h2
        rcases h2 with h2 | ⟨_, a0, w0, h3⟩
        · exact Oper.wpIn_mono (fun _ _ h' => anyIn_of_any hF hnd hno h') (opIn_of_wp hF (hnd i o ho) h2)
        · exact (hno _ _ h3).elim
      · rename_i hw
        rw [if_neg hw] at h2
        exact ⟨fun f _ => hF.fn f, anyIn_of_any hF hnd hno h2⟩
theorem ri_parZ {id : Nat} {l : List Oper} (Z : World → Prop) (hZ : ∀ X F w, St W (X ++ M) (F ++ R) w → Z w) (fl : List Nat) (m : Nat) (hF : WideF P F) (hnd : l.all (fun o => noDefer o.op) = true) (hml : Nat.ble m l.length = true) (hns : Region.noSelect l.toArray = true) (hbk : backB l = true) (htl : tailF fl (masks l []) m l.length = true) (hfs : freesB l fl = true)
    (hm : P.follows .mixedOrders = true) (hpb : parB ((floatL fl m l).take m) ((floatL fl m l).drop m) = true) (hfr : freshB L ((floatL fl m l).take m) = true)
    (h : ParO P W n M R (floatL fl m l).toArray (fun ss => FlZ Z P n L ((floatL fl m l).take m) ss fl ∧ preOf ss = [] ∧ lateX (floatL fl m l).toArray ss = true ∧ Fin W n D (wpListZ Z P (floatL fl m l).toArray (NoP Q) ((floatL fl m l).drop m)) ((floatL fl m l).take m) ss L M R) ((floatL fl m l).take m) [] L) : Imp W n D L M R ((Code.region id l.toArray true).wpIn F m0 P Q) := by
  have hml : m ≤ l.length := by simpa using hml
  intro a w h1 h2 h3
  refine Go.wpIn_mono (Q := NoP Q) ?_ (fun e a' w' he => ?_)
  rotate_left
  · cases e with
    | normal => exact he
    | _ => exact he.elim
  refine wpIn_region_any hm (anyIn_of_any hF (fun i o ho => ?_) (fun _ _ h => h) ?_)
  · have : l[i]? = some o := by simpa using ho
    exact List.all_eq_true.1 hnd o (List.mem_of_getElem? this)
  obtain ⟨ss, hl, ⟨hsi, hpre, hlx, hfin⟩, hs⟩ := ParO.out ((floatL fl m l).take m) [] L h
  rw [List.nil_append] at hsi hpre hlx hfin
  have hLB : lateB (floatL fl m l).toArray ss 0 ss = true := by simp only [lateX, Bool.and_eq_true] at hlx; exact hlx.1
  have hlk : ∀ o ∈ (floatL fl m l).take m, look L (o.dst.getD 1000000) = none := fun o ho => by
    have := List.all_eq_true.1 hfr o ho
    simpa using this
  refine (floatZ_all hZ hml hpb hl hlk (lateOK_of hLB) (fun k s c e1 e2 => (lateX_ab hlx k s c e1 e2).elim) (fun k o s e1 e2 => by
    have := hs k o s e1 e2
    rw [List.nil_append, List.length_nil, Nat.zero_add] at this
    exact this) hfin hsi hns hbk htl hfs _ _ _ _ ⟨?_, ?_, ?_, h1, h2, fun _ => undef, ?_, ?_⟩ ?_).any
  · simp [floatL_len]
  · intro j o _ hj
    rw [rep_false] at hj; cases hj
  · intro t _ ht
    have : t < l.length := by simpa [floatL_len] using ht
    simp [this]
  · intro i o s e1 _ hj
    rw [rep_false] at hj; cases hj
  · have e1 : resOf ss (Array.replicate l.toArray.size false) (fun _ => undef) ((floatL fl m l).take m).length = [] := by
      rw [← hpre, ← preOf_range, hl]
      refine flatMap_same _ _ _ fun j hj => ?_
      rw [rep_false]; rfl
    have e2 : ∀ k, fctOf ss (Array.replicate l.toArray.size false) (fun _ => undef) k = [] := by
      intro k
      unfold fctOf
      induction k with
      | zero => rfl
      | succ k ih => rw [List.range_succ, List.flatMap_append, ih, List.nil_append, List.flatMap_cons, List.flatMap_nil, List.append_nil, rep_false]; rfl
    rw [e1, e2]
    exact h3.heap rfl rfl rfl rfl
  · have := unl_tail (N := l.length) (m := 0) (listed := Array.replicate l.length false) (fun i hi => by omega)
    simpa using this
end Go.G

namespace Go.G
variable {P : Program} {W : World} {n : Nat} {D : List Deferred} {L : Tm} {M : List Res} {R : List Fact} {Q : Exit → Act → World → Prop} {o : Oper} {Z : World → Prop}
def FlY (Z : World → Prop) (P : Program) (n : Nat) (L : Tm) (free : List Oper) (ss : List Spc) : List Nat → Prop
  | [] => True
  | i :: r => (∃ (o : Oper) (s : Spc) (d : Nat), free[i]? = some o ∧ ss[i]? = some s ∧ o.guard = none ∧ o.dst = some d ∧ Nat.blt d n = true ∧ s.of = none ∧ s.pre = [] ∧ (∀ u, s.rs u = []) ∧
      ((∃ v, s = Spc.q v ∧ ∀ a, FSat n (detL (free.take i) (ss.take i) L) a → ∀ w, Z w → (execOp a.eval o).run P w = .ok (.value v) w) ∨
       (s.det = none ∧ ∃ (j : Nat) (oj : Oper) (sj : Spc) (f : Value → Value), free[j]? = some oj ∧ ss[j]? = some sj ∧ sj.det = none ∧ depOn o j = true ∧ oj.dst.isSome = true ∧
         ∀ u, sj.pval u → s.pval (f u) ∧ (∀ φ ∈ s.fct (f u), φ ∈ sj.fct u) ∧ ∀ a, FSat n ((oj.dst.getD 1000000, u) :: detL (free.take i) (ss.take i) L) a → ∀ w, Z w → (execOp a.eval o).run P w = .ok (.value (f u)) w))) ∧ FlY Z P n L free ss r
theorem FlY.at {free : List Oper} {ss : List Spc} : ∀ {fl : List Nat}, FlY Z P n L free ss fl → ∀ i ∈ fl, (∃ (o : Oper) (s : Spc) (d : Nat), free[i]? = some o ∧ ss[i]? = some s ∧ o.guard = none ∧ o.dst = some d ∧ Nat.blt d n = true ∧ s.of = none ∧ s.pre = [] ∧ (∀ u, s.rs u = []) ∧
      ((∃ v, s = Spc.q v ∧ ∀ a, FSat n (detL (free.take i) (ss.take i) L) a → ∀ w, Z w → (execOp a.eval o).run P w = .ok (.value v) w) ∨
       (s.det = none ∧ ∃ (j : Nat) (oj : Oper) (sj : Spc) (f : Value → Value), free[j]? = some oj ∧ ss[j]? = some sj ∧ sj.det = none ∧ depOn o j = true ∧ oj.dst.isSome = true ∧
         ∀ u, sj.pval u → s.pval (f u) ∧ (∀ φ ∈ s.fct (f u), φ ∈ sj.fct u) ∧ ∀ a, FSat n ((oj.dst.getD 1000000, u) :: detL (free.take i) (ss.take i) L) a → ∀ w, Z w → (execOp a.eval o).run P w = .ok (.value (f u)) w)))
  | [], _, _, h => by cases h
  | j :: r, ⟨h1, h2⟩, i, hi => by
    rcases List.mem_cons.1 hi with rfl | hi
    · exact h1
    · exact FlY.at h2 i hi
end Go.G

namespace Go.G
variable {P : Program} {W : World} {n : Nat} {D : List Deferred} {L : Tm} {M : List Res} {R : List Fact} {Q : Exit → Act → World → Prop} {o : Oper} {Z : World → Prop}
def ren (τ : Nat → Nat) (o : Oper) : Oper := { o with after := o.after.map fun e => { e with on := τ e.on }, guard := o.guard.map fun p => (τ p.1, p.2) }
def permL (σ : List Nat) (l : List Oper) : List Oper := σ.map fun i => match l[i]? with | some o => ren (fun j => σ.idxOf j) o | none => { dst := none, op := .move (.tmp 0), type := 0, pos := "", after := #[], guard := none }
def permB (σ : List Nat) (l : List Oper) : Bool := nodupB σ && Nat.beq σ.length l.length && (List.range l.length).all (fun j => Nat.blt (σ.idxOf j) σ.length) && σ.all (fun i => Nat.blt i l.length) &&
  l.all (fun o => o.after.all (fun e => Nat.blt e.on l.length) && match o.guard with | some (g, _) => Nat.blt g l.length | none => true)
structure PermOK (σ : List Nat) (l : List Oper) : Prop where
  len : σ.length = l.length
  at_ : ∀ j, j < l.length → σ.idxOf j < σ.length ∧ σ[σ.idxOf j]? = some j
  inv : ∀ k (i : Nat), σ[k]? = some i → i < l.length ∧ σ.idxOf i = k
  edge : ∀ o ∈ l, ∀ e ∈ o.after, e.on < l.length
  gd : ∀ o ∈ l, ∀ g b, o.guard = some (g, b) → g < l.length
theorem permOK_of {σ : List Nat} {l : List Oper} (h : permB σ l = true) : PermOK σ l := by
  simp only [permB, Bool.and_eq_true] at h
  obtain ⟨⟨⟨⟨h0, h1⟩, h2⟩, h3⟩, h4⟩ := h
  have hlen : σ.length = l.length := by simpa using h1
  have hat : ∀ j, j < l.length → σ.idxOf j < σ.length ∧ σ[σ.idxOf j]? = some j := fun j hj => by
    have := List.all_eq_true.1 h2 j (List.mem_range.2 hj)
    have hlt : σ.idxOf j < σ.length := by simpa using this
    exact ⟨hlt, by rw [List.getElem?_eq_getElem hlt, List.getElem_idxOf hlt]⟩
  have hmem : ∀ i ∈ σ, i < l.length := fun i hi => by simpa using List.all_eq_true.1 h3 i hi
  have hnd : σ.Nodup := nodupB_sound h0
  refine ⟨hlen, hat, fun k i hk => ?_, fun o ho e he => ?_, fun o ho g b hg => ?_⟩
  · have hi := hmem i (List.mem_of_getElem? hk)
    refine ⟨hi, ?_⟩
    obtain ⟨g1, g2⟩ := hat i hi
    have hk2 := List.getElem?_eq_some_iff.1 hk
    have g3 := List.getElem?_eq_some_iff.1 g2
    exact (List.getElem_inj hnd).1 (g3.2.trans hk2.2.symm)
  · have := List.all_eq_true.1 h4 o ho
    simp only [Bool.and_eq_true] at this
    simpa using Array.all_eq_true_iff_forall_mem.1 this.1 e he
  · have := List.all_eq_true.1 h4 o ho
    simp only [Bool.and_eq_true, hg] at this
    simpa using this.2
section
variable {σ : List Nat} {l : List Oper}
theorem permL_at (h : PermOK σ l) {k i : Nat} (hk : σ[k]? = some i) : ∃ o, l[i]? = some o ∧ (permL σ l)[k]? = some (ren (fun j => σ.idxOf j) o) := by
  obtain ⟨hi, _⟩ := h.inv k i hk
  refine ⟨l[i], List.getElem?_eq_getElem hi, ?_⟩
  unfold permL
  rw [List.getElem?_map, hk, Option.map_some, List.getElem?_eq_getElem hi]
theorem permL_len (σ : List Nat) (l : List Oper) : (permL σ l).length = σ.length := by unfold permL; rw [List.length_map]
def SameL (σ : List Nat) (listed listed' : Array Bool) : Prop := listed.size = σ.length ∧ listed'.size = σ.length ∧ ∀ k (i : Nat), σ[k]? = some i → ∀ d, listed'.getD k d = listed.getD i d
theorem perm_ready (h : PermOK σ l) {listed listed' : Array Bool} (hs : SameL σ listed listed') {k i : Nat} (hk : σ[k]? = some i) : k ∈ Region.ready .any (permL σ l).toArray listed' ↔ i ∈ Region.ready .any l.toArray listed := by
  obtain ⟨o, ho, hp⟩ := permL_at h hk
  have hom : o ∈ l := List.mem_of_getElem? ho
  have hedge : ∀ e ∈ o.after, listed'.getD (σ.idxOf e.on) false = listed.getD e.on false := fun e he => by
    have := h.edge o hom e he
    exact hs.2.2 _ _ (h.at_ e.on this).2 false
  constructor
  · intro hr
    obtain ⟨h0, o', ho', hall⟩ := mem_ready.1 hr
    have : o' = ren (fun j => σ.idxOf j) o := Option.some.inj (ho'.symm.trans (by simpa using hp))
    subst this
    refine mem_ready.2 ⟨by rw [← hs.2.2 k i hk true]; exact h0, o, by simpa using ho, fun e he hb => ?_⟩
    have := hall { e with on := σ.idxOf e.on } (Array.mem_map.2 ⟨e, he, rfl⟩) hb
    rw [← hedge e he]; exact this
  · intro hr
    obtain ⟨h0, o', ho', hall⟩ := mem_ready.1 hr
    have : o' = o := Option.some.inj (ho'.symm.trans (by simpa using ho))
    subst this
    refine mem_ready.2 ⟨by rw [hs.2.2 k i hk true]; exact h0, _, by simpa using hp, fun e he hb => ?_⟩
    obtain ⟨e0, he0, rfl⟩ := Array.mem_map.1 he
    show listed'.getD (σ.idxOf e0.on) false = true
    rw [hedge e0 he0]; exact hall e0 he0 hb
theorem perm_yielded (h : PermOK σ l) (tmps : Array Value) {g : Nat} (hg : g < l.length) : yielded (permL σ l).toArray tmps (σ.idxOf g) = yielded l.toArray tmps g := by
  obtain ⟨_, h2⟩ := h.at_ g hg
  obtain ⟨o, ho, hp⟩ := permL_at h h2
  unfold yielded
  rw [List.getElem?_toArray, List.getElem?_toArray, ho, hp]
  rfl
theorem perm_op (h : PermOK σ l) {k i : Nat} (hk : σ[k]? = some i) {K : Act → World → Prop} {a : Act} {w : World} (hw : wpOp P (permL σ l).toArray Q k K a w) : wpOp P l.toArray Q i K a w := by
  obtain ⟨o, ho, hp⟩ := permL_at h hk
  have hom : o ∈ l := List.mem_of_getElem? ho
  unfold wpOp at *
  rw [List.getElem?_toArray] at hw ⊢
  rw [hp] at hw
  rw [ho]
  have hwant : Region.wanted (ren (fun j => σ.idxOf j) o) (yielded (permL σ l).toArray a.tmps) = Region.wanted o (yielded l.toArray a.tmps) := by
    unfold Region.wanted ren
    cases hgd : o.guard with
    | none => rfl
    | some p =>
      obtain ⟨g, b⟩ := p
      dsimp only [Option.map]
      rw [perm_yielded h a.tmps (h.gd o hom g b hgd)]
  dsimp only at hw ⊢
  rw [hwant] at hw
  exact hw
theorem same_set (h : PermOK σ l) {listed listed' : Array Bool} (hs : SameL σ listed listed') {k i : Nat} (hk : σ[k]? = some i) : SameL σ (listed.setIfInBounds i true) (listed'.setIfInBounds k true) := by
  refine ⟨by simp [hs.1], by simp [hs.2.1], fun k' i' hk' d => ?_⟩
  by_cases e : k = k'
  · subst e
    have : i = i' := Option.some.inj (hk.symm.trans hk')
    subst this
    have h1 : k < listed'.size := by rw [hs.2.1]; exact (List.getElem?_eq_some_iff.1 hk).1
    have h2 : i < listed.size := by rw [hs.1, h.len]; exact (h.inv k i hk).1
    simp [h1, h2]
  · have hne : i ≠ i' := fun e2 => by
      subst e2
      exact e ((h.inv k i hk).2.symm.trans (h.inv k' i hk').2)
    rw [getD_set_ne d e, getD_set_ne d hne]
    exact hs.2.2 k' i' hk' d
theorem perm_any (h : PermOK σ l) : ∀ (fuel : Nat) (listed listed' : Array Bool) (a : Act) (w : World), SameL σ listed listed' → wpAny P .any (permL σ l).toArray Q fuel listed' a w → wpAny P .any l.toArray Q fuel listed a w := by
  have nil : ∀ {listed listed' : Array Bool}, SameL σ listed listed' → Region.ready .any l.toArray listed = [] → Region.ready .any (permL σ l).toArray listed' = [] := fun {listed listed'} hs hr => by
    apply List.eq_nil_iff_forall_not_mem.2
    intro k hk
    have hlt : k < σ.length := by
      obtain ⟨_, o, ho, _⟩ := mem_ready.1 hk
      have := (Array.getElem?_eq_some_iff.1 ho).1
      simpa [permL_len] using this
    have := (perm_ready h hs (List.getElem?_eq_getElem hlt)).1 hk
    rw [hr] at this; cases this
  have nil' : ∀ {listed listed' : Array Bool}, SameL σ listed listed' → Region.ready .any (permL σ l).toArray listed' = [] → Region.ready .any l.toArray listed = [] := fun {listed listed'} hs hr => by
    apply List.eq_nil_iff_forall_not_mem.2
    intro i hi
    have hlt : i < l.length := by
      obtain ⟨_, o, ho, _⟩ := mem_ready.1 hi
      simpa using (Array.getElem?_eq_some_iff.1 ho).1
    have := (perm_ready h hs (h.at_ i hlt).2).2 hi
    rw [hr] at this; cases this
  intro fuel
  induction fuel with
  | zero => intro listed listed' a w hs hw; exact ⟨nil' hs hw.1, hw.2⟩
  | succ fuel ih =>
    intro listed listed' a w hs hw
    refine ⟨fun hr => hw.1 (nil hs hr), fun i hi => ?_⟩
    have hlt : i < l.length := by
      obtain ⟨_, o, ho, _⟩ := mem_ready.1 hi
      simpa using (Array.getElem?_eq_some_iff.1 ho).1
    have hk := (h.at_ i hlt).2
    exact wpOp_mono (fun a' w' h' => ih _ _ a' w' (same_set h hs hk) h') (perm_op h hk (hw.2 _ ((perm_ready h hs hk).2 hi)))
end
end Go.G

namespace Go.G
variable {P : Program} {W : World} {n : Nat} {D : List Deferred} {L : Tm} {M : List Res} {R : List Fact} {Q : Exit → Act → World → Prop} {o : Oper} {Z : World → Prop}
theorem r_parPZ {id : Nat} {l0 l : List Oper} (σ : List Nat) (hpm : permB σ l0 = true) (hl0 : permL σ l0 = l) (Z : World → Prop) (hZ : ∀ X F w, St W (X ++ M) (F ++ R) w → Z w) (fl : List Nat) (m : Nat) (hml : Nat.ble m l.length = true) (hns : Region.noSelect l.toArray = true) (hbk : backB l = true) (htl : tailF fl (masks l []) m l.length = true) (hfs : freesB l fl = true)
    (hm : P.follows .mixedOrders = true) (hpb : parB ((floatL fl m l).take m) ((floatL fl m l).drop m) = true) (hfr : freshB L ((floatL fl m l).take m) = true)
    (h : ParO P W n M R (floatL fl m l).toArray (fun ss => FlZ Z P n L ((floatL fl m l).take m) ss fl ∧ preOf ss = [] ∧ lateX (floatL fl m l).toArray ss = true ∧ Fin W n D (wpListZ Z P (floatL fl m l).toArray (NoP Q) ((floatL fl m l).drop m)) ((floatL fl m l).take m) ss L M R) ((floatL fl m l).take m) [] L) : Imp W n D L M R ((Code.region id l0.toArray true).wp P Q) := by
  have hml : m ≤ l.length := by simpa using hml
  intro a w h1 h2 h3
  refine Code.wp_mono (Q := NoP Q) (fun e a' w' he => ?_) ?_
  · cases e with
    | normal => exact he
    | _ => exact he.elim
  refine wp_region_any hm ?_
  have hpk := permOK_of hpm
  have hsz : l0.length = l.length := by rw [← hl0, permL_len, hpk.len]
  rw [show l0.toArray.size = l.toArray.size by simpa using hsz]
  refine perm_any hpk _ _ (Array.replicate l.toArray.size false) _ _ ⟨by simp [hpk.len, hsz], by simp [hpk.len, hsz], fun k i hk d => ?_⟩ ?_
  · have h1 : k < l.length := by rw [← hsz, ← hpk.len]; exact (List.getElem?_eq_some_iff.1 hk).1
    have h2 : i < l.length := by rw [← hsz]; exact (hpk.inv k i hk).1
    simp [h1, h2]
  rw [hl0]
  obtain ⟨ss, hl, ⟨hsi, hpre, hlx, hfin⟩, hs⟩ := ParO.out ((floatL fl m l).take m) [] L h
  rw [List.nil_append] at hsi hpre hlx hfin
  have hLB : lateB (floatL fl m l).toArray ss 0 ss = true := by simp only [lateX, Bool.and_eq_true] at hlx; exact hlx.1
  have hlk : ∀ o ∈ (floatL fl m l).take m, look L (o.dst.getD 1000000) = none := fun o ho => by
    have := List.all_eq_true.1 hfr o ho
    simpa using this
  refine (floatZ_all hZ hml hpb hl hlk (lateOK_of hLB) (fun k s c e1 e2 => (lateX_ab hlx k s c e1 e2).elim) (fun k o s e1 e2 => by
    have := hs k o s e1 e2
    rw [List.nil_append, List.length_nil, Nat.zero_add] at this
    exact this) hfin hsi hns hbk htl hfs _ _ _ _ ⟨?_, ?_, ?_, h1, h2, fun _ => undef, ?_, ?_⟩ ?_).any
  · simp [floatL_len]
  · intro j o _ hj
    rw [rep_false] at hj; cases hj
  · intro t _ ht
    have : t < l.length := by simpa [floatL_len] using ht
    simp [this]
  · intro i o s e1 _ hj
    rw [rep_false] at hj; cases hj
  · have e1 : resOf ss (Array.replicate l.toArray.size false) (fun _ => undef) ((floatL fl m l).take m).length = [] := by
      rw [← hpre, ← preOf_range, hl]
      refine flatMap_same _ _ _ fun j hj => ?_
      rw [rep_false]; rfl
    have e2 : ∀ k, fctOf ss (Array.replicate l.toArray.size false) (fun _ => undef) k = [] := by
      intro k
      unfold fctOf
      induction k with
      | zero => rfl
      | succ k ih => rw [List.range_succ, List.flatMap_append, ih, List.nil_append, List.flatMap_cons, List.flatMap_nil, List.append_nil, rep_false]; rfl
    rw [e1, e2]
    exact h3.heap rfl rfl rfl rfl
  · have := unl_tail (N := l.length) (m := 0) (listed := Array.replicate l.length false) (fun i hi => by omega)
    simpa using this
theorem o_fnXV {α : Type} {M1 : List Res} {ops : Array Oper} {rest : List Oper} {k : FuncId} {args : List Value} {R0 : List Fact} {r : Res} {g : α → Value} {Pp : α → Prop} {Mr : α → Res} {Rr : α → List Fact} {f : Operand} {xs : List Operand} {ts : Array TypeId} {vs : List Value} {d : Nat} [hM : DelC M r M1] (captured : List Value)
    (h : FnS P k args [r] R0 (fun e M' R' => ∃ x, e = .returned (g x) ∧ Pp x ∧ M' = [Mr x] ∧ R' = Rr x)) (ho : o.op = .call { callee := .value f, args := xs.toArray, argTypes := ts }) (hf : ev L f = some (.func (.func k) #[] captured.toArray))
    (hx : evs L xs = some vs) (ha : vs ++ captured = args) (hg : o.guard = none) (hdst : o.dst = some d) (hd : Nat.blt d n = true) (hs : SubR R R0)
    (hret : ∀ x, Pp x → Imp W n D ((d, g x) :: L) (Mr x :: M1) (Rr x ++ R) (wpList P ops Q rest)) : Imp W n D L M R (wpList P ops Q (o :: rest)) := by
  refine o_call h ho [] captured hf hx (by simpa using ha) hg (by simp [okD, hdst, hd]) (Mf := M1) ⟨[], by simpa using hM.del.perm⟩ hs ?_ ?_ ?_
  · rintro v M' R' ⟨x, he, hp, rfl, rfl⟩
    cases he
    rw [hdst]
    exact hret x hp
  · rintro c M' R' ⟨x, he, _⟩; cases he
  · rintro M' R' ⟨x, he, _⟩; cases he
theorem Imp.unownB {α : Type} {enc : α → List Value} {sz : Nat} {T : TypeId} {xs : List α} {M' : List Res} {X : Act → World → Prop} (v : Value) [hd : HasOwn v M T sz enc xs M'] (hne : 0 < xs.length)
    (h : ∀ (b cap : Nat) (sp : List Value), v = .slice (some ⟨b, 0, none⟩) xs.length cap → Imp W n D L (bx b T (xs.flatMap enc ++ sp) :: M') R X) : Imp W n D L M R X := by
  intro a w h1 h2 h3
  have h4 : St W (ownL v T sz enc xs :: M') R w := h3.perm hd.del.perm
  obtain ⟨s, ⟨s1, s2, rfl, hs1, hM⟩, hO, hR⟩ := h4.mem
  obtain ⟨hl, ⟨_, e, _⟩ | ⟨b, cap, C, e, _, _, hC, ht, rfl⟩⟩ := hs1
  · omega
  · refine h b cap (C.toList.drop (xs.length * sz)) e a w h1 h2 ⟨h4.os, h4.tape, h4.output, [(b, .cells C T (0, 0))] ++ s2, ⟨_, s2, rfl, ?_, hM⟩, hO, hR⟩
    show [(b, Obj.cells C T (0, 0))] = [(b, Obj.cells (xs.flatMap enc ++ C.toList.drop (xs.length * sz)).toArray T (0, 0))]
    rw [← ht, List.take_append_drop]
end Go.G

namespace Go.Proofs.YtpndeonmmcaikaaGreat.DrW
open Go.G Foot4 Drain7
set_option maxRecDepth 1000000
attribute [local irreducible] G.ParO G.Fin
set_option maxHeartbeats 4000000 in
theorem ones64_v (m : Nat) (hm : m < 128) : FnV Tryz.prog 115 [u64 m] [] (i64 (pop m)) := by
 have hp := pop_bd m hm; refine FnV.intro Tryz.call115 Tryz.func115 rfl Tryz.ntmps115 rfl ?_; intro W M Rf; refine r_seq (r_region ?_); refine q_as rfl rfl rfl rfl rfl ?_; refine o_nil (r_then (r_seq (r_region ?_))); refine q_mv rfl rfl rfl rfl rfl ?_; refine o_q _ rfl rfl rfl (v_shrK (m >>> 1) rfl rfl rfl (by omega) (by decide) rfl) ?_; refine o_q _ rfl rfl rfl (v_andK (m >>> 1 &&& 6148914691236517205) rfl rfl rfl (by first | omega | exact Nat.lt_of_le_of_lt (Nat.shiftRight_le _ _) (by omega)) (by decide) rfl) ?_; refine q_mv rfl rfl rfl rfl rfl ?_; refine o_q _ rfl rfl rfl (v_andK (m &&& 6148914691236517205) rfl rfl rfl (by first | omega | exact Nat.lt_of_le_of_lt (Nat.shiftRight_le _ _) (by omega)) (by decide) rfl) ?_; refine o_q _ rfl rfl rfl (v_addK (oc1 m) rfl rfl rfl (by first | omega | exact Nat.lt_of_le_of_lt (Nat.add_le_add (Nat.le_trans Nat.and_le_left (Nat.shiftRight_le _ _)) Nat.and_le_left) (by omega) | exact Nat.lt_of_le_of_lt (Nat.add_le_add (Nat.shiftRight_le _ _) (Nat.le_refl _)) (by omega) | exact Nat.lt_of_le_of_lt (Nat.add_le_add (Nat.le_refl _) (Nat.shiftRight_le _ _)) (by omega)) rfl) ?_; refine q_as rfl rfl rfl rfl rfl ?_; refine o_nil (r_then (r_seq (r_region ?_))); refine q_mv rfl rfl rfl rfl rfl ?_; refine o_q _ rfl rfl rfl (v_shrK (oc1 m >>> 2) rfl rfl rfl (by omega) (by decide) rfl) ?_; refine o_q _ rfl rfl rfl (v_andK (oc1 m >>> 2 &&& 3689348814741910323) rfl rfl rfl (by first | omega | exact Nat.lt_of_le_of_lt (Nat.shiftRight_le _ _) (by omega)) (by decide) rfl) ?_; refine q_mv rfl rfl rfl rfl rfl ?_; refine o_q _ rfl rfl rfl (v_andK (oc1 m &&& 3689348814741910323) rfl rfl rfl (by first | omega | exact Nat.lt_of_le_of_lt (Nat.shiftRight_le _ _) (by omega)) (by decide) rfl) ?_; refine o_q _ rfl rfl rfl (v_addK (oc2 m) rfl rfl rfl (by first | omega | exact Nat.lt_of_le_of_lt (Nat.add_le_add (Nat.le_trans Nat.and_le_left (Nat.shiftRight_le _ _)) Nat.and_le_left) (by omega) | exact Nat.lt_of_le_of_lt (Nat.add_le_add (Nat.shiftRight_le _ _) (Nat.le_refl _)) (by omega) | exact Nat.lt_of_le_of_lt (Nat.add_le_add (Nat.le_refl _) (Nat.shiftRight_le _ _)) (by omega)) rfl) ?_; refine q_as rfl rfl rfl rfl rfl ?_; refine o_nil (r_then (r_seq (r_region ?_))); refine q_mv rfl rfl rfl rfl rfl ?_; refine o_q _ rfl rfl rfl (v_shrK (oc2 m >>> 4) rfl rfl rfl (by omega) (by decide) rfl) ?_; refine q_mv rfl rfl rfl rfl rfl ?_; refine o_q _ rfl rfl rfl (v_addK (oc2 m >>> 4 + oc2 m) rfl rfl rfl (by first | omega | exact Nat.lt_of_le_of_lt (Nat.add_le_add (Nat.le_trans Nat.and_le_left (Nat.shiftRight_le _ _)) Nat.and_le_left) (by omega) | exact Nat.lt_of_le_of_lt (Nat.add_le_add (Nat.shiftRight_le _ _) (Nat.le_refl _)) (by omega) | exact Nat.lt_of_le_of_lt (Nat.add_le_add (Nat.le_refl _) (Nat.shiftRight_le _ _)) (by omega)) rfl) ?_
 refine o_q _ rfl rfl rfl (v_andK (oc3 m) rfl rfl rfl (by first | omega | exact Nat.lt_of_le_of_lt (Nat.add_le_add (Nat.le_trans Nat.and_le_left (Nat.shiftRight_le _ _)) Nat.and_le_left) (by omega) | exact Nat.lt_of_le_of_lt (Nat.add_le_add (Nat.shiftRight_le _ _) (Nat.le_refl _)) (by omega) | exact Nat.lt_of_le_of_lt (Nat.add_le_add (Nat.le_refl _) (Nat.shiftRight_le _ _)) (by omega)) (by decide) rfl) ?_; refine q_as rfl rfl rfl rfl rfl ?_; refine o_nil (r_then (r_seq (r_region ?_))); refine q_mv rfl rfl rfl rfl rfl ?_; refine q_mv rfl rfl rfl rfl rfl ?_; refine o_q _ rfl rfl rfl (v_shrK (oc3 m >>> 8) rfl rfl rfl (by omega) (by decide) rfl) ?_; refine o_q _ rfl rfl rfl (v_addK (oc4 m) rfl rfl rfl (by first | omega | exact Nat.lt_of_le_of_lt (Nat.add_le_add (Nat.le_trans Nat.and_le_left (Nat.shiftRight_le _ _)) Nat.and_le_left) (by omega) | exact Nat.lt_of_le_of_lt (Nat.add_le_add (Nat.shiftRight_le _ _) (Nat.le_refl _)) (by omega) | exact Nat.lt_of_le_of_lt (Nat.add_le_add (Nat.le_refl _) (Nat.shiftRight_le _ _)) (by omega)) rfl) ?_; refine q_as rfl rfl rfl rfl rfl ?_; refine o_nil (r_then (r_seq (r_region ?_))); refine q_mv rfl rfl rfl rfl rfl ?_; refine q_mv rfl rfl rfl rfl rfl ?_; refine o_q _ rfl rfl rfl (v_shrK (oc4 m >>> 16) rfl rfl rfl (by omega) (by decide) rfl) ?_; refine o_q _ rfl rfl rfl (v_addK (oc5 m) rfl rfl rfl (by first | omega | exact Nat.lt_of_le_of_lt (Nat.add_le_add (Nat.le_trans Nat.and_le_left (Nat.shiftRight_le _ _)) Nat.and_le_left) (by omega) | exact Nat.lt_of_le_of_lt (Nat.add_le_add (Nat.shiftRight_le _ _) (Nat.le_refl _)) (by omega) | exact Nat.lt_of_le_of_lt (Nat.add_le_add (Nat.le_refl _) (Nat.shiftRight_le _ _)) (by omega)) rfl) ?_; refine q_as rfl rfl rfl rfl rfl ?_; refine o_nil (r_then (r_seq (r_region ?_))); refine q_mv rfl rfl rfl rfl rfl ?_; refine q_mv rfl rfl rfl rfl rfl ?_; refine o_q _ rfl rfl rfl (v_shrK (oc5 m >>> 32) rfl rfl rfl (by omega) (by decide) rfl) ?_; refine o_q _ rfl rfl rfl (v_addK (oc6 m) rfl rfl rfl (by first | omega | exact Nat.lt_of_le_of_lt (Nat.add_le_add (Nat.le_trans Nat.and_le_left (Nat.shiftRight_le _ _)) Nat.and_le_left) (by omega) | exact Nat.lt_of_le_of_lt (Nat.add_le_add (Nat.shiftRight_le _ _) (Nat.le_refl _)) (by omega) | exact Nat.lt_of_le_of_lt (Nat.add_le_add (Nat.le_refl _) (Nat.shiftRight_le _ _)) (by omega)) rfl) ?_; refine q_as rfl rfl rfl rfl rfl ?_; refine o_nil (r_then (r_seq (r_region ?_))); refine q_mv rfl rfl rfl rfl rfl ?_; refine o_q _ rfl rfl rfl (v_conv rfl Tryz.underlying197 Tryz.underlying3 rfl (IntWalk.i64_in _ (by omega))) ?_; refine o_q _ rfl rfl rfl (v_andn (a := oc6 m) (b := 127) rfl rfl rfl (by omega) (by decide)) ?_; refine q_as rfl rfl rfl rfl rfl ?_; refine o_nil (r_then ?_); refine r_ret ?_
 exact r_retv2 (Rd.tmp rfl rfl) rfl SelMC.sel SubRC.sub
set_option maxHeartbeats 4000000 in
theorem ones_v (m : Nat) (hm : m < 128) : FnV Tryz.prog 57 [u64 m] [] (i64 ((cnt m : Nat) : Int)) := by
 refine FnV.intro Tryz.call57 Tryz.func57 rfl Tryz.ntmps57 rfl ?_; intro W M Rf; refine r_seq (r_region ?_); refine q_as rfl rfl rfl rfl rfl ?_; refine o_nil (r_then (r_seq ?_)); refine r_cond rfl (fun hcconst_false_ => ?_) (fun hcconst_false_ => ?_)
 ·
  (exfalso; revert hcconst_false_; decide)
 ·
  refine r_skip (r_then (r_seq (r_region ?_))); refine q_mv rfl rfl rfl rfl rfl ?_; refine o_q _ rfl rfl rfl (OpQ.fn (ones64_v m hm) rfl rfl SubRC.sub) ?_; refine q_as rfl rfl rfl rfl rfl ?_; refine o_nil (r_then ?_); refine r_ret ?_; exact r_retv2 (Rd.tmp rfl rfl) (congrArg (fun x : Nat => i64 (x : Int)) (pop_cnt m hm)) SelMC.sel SubRC.sub
set_option maxHeartbeats 4000000 in
theorem cmp_v (a b : Nat) (ha : a < 128) (hb : b < 128) : FnV Tryz.prog 110 [u64 a, u64 b] [] (i64 ((cnt a : Int) - (cnt b : Int))) := by
 refine FnV.intro Tryz.call110 Tryz.func110 rfl Tryz.ntmps110 rfl ?_; intro W M Rf; refine r_seq (r_region ?_); refine q_as rfl rfl rfl rfl rfl ?_; refine o_nil (r_then (r_seq ?_)); have hca := cnt_lt a; have hcb := cnt_lt b; refine r_region ?_; refine q_mv rfl rfl rfl rfl rfl ?_; refine o_q _ rfl rfl rfl (OpQ.fn (ones_v a ha) rfl rfl SubRC.sub) ?_; refine q_mv rfl rfl rfl rfl rfl ?_; refine o_q _ rfl rfl rfl (OpQ.fn (ones_v b hb) rfl rfl SubRC.sub) ?_; refine o_q _ rfl rfl rfl (v_sub rfl rfl rfl (by omega)) ?_; refine q_as rfl rfl rfl rfl rfl ?_; refine o_nil (r_then ?_); refine r_ret ?_; exact r_retv2 (Rd.tmp rfl rfl) rfl SelMC.sel SubRC.sub
def encU (x : Nat) : List Value := [u64 x]
theorem encU_len (x : Nat) : (encU x).length = 1 := rfl
theorem boxU_get {c : List Nat} {sp : List Value} {j : Nat} (h : j < c.length) : (c.flatMap encU ++ sp)[j * 1]? = some (u64 (c.getD j default)) := by
  have h1 := flat_get (sp := sp) encU_len (xs := c) h (show 0 < 1 by decide)
  exact h1
theorem boxU_set {c : List Nat} {sp : List Value} {j x : Nat} (h : j < c.length) : splice (c.flatMap encU ++ sp) (j * 1) [u64 x] = (c.set j x).flatMap encU ++ sp := flat_set (y := x) encU_len c j 0 h (by decide) rfl
theorem boxU_ble {c : List Nat} {sp : List Value} {j : Nat} (h : j < c.length) : Nat.ble (j * 1 + 1) (c.flatMap encU ++ sp).length = true := by
  refine Nat.ble_eq_true_of_le ?_
  rw [List.length_append, flat_len encU_len]; omega
theorem float_sub {P : Program} {n : Nat} {L : Tm} {o : Oper} {t u : TypeId} {x y : Operand} {b c e : Int} (ho : o.op = .binOp .sub t x y u) (hx : ev L x = some (.int .i64 b)) (hy : ev L y = some (.int .i64 c)) (h : -9223372036854775808 ≤ b - c ∧ b - c ≤ 9223372036854775807) (he : b - c = e) : ∀ a, FSat n L a → ∀ w, (execOp a.eval o).run P w = .ok (.value (.int .i64 e)) w := fun f h1 w => by
  subst he
  have hw : IntKind.wrap .i64 (b - c) = b - c := IntWalk.i64_in _ h
  simp [execOp, ho, h1.ev hx, h1.ev hy, eqGuard, binOp, Op.intArith, hw]
set_option maxHeartbeats 4000000 in
theorem ins_s (l : List Nat) (hl : l.length ≤ 1000) (hsm : Sm l) (bb cap : Nat) (sp : List Value) (a b : Nat) (hab : a ≤ b) (hb : b ≤ l.length) : FnC Tryz.prog 173 [.slice (some ⟨bb, 0, none⟩) l.length cap, i64 (a : Int), i64 (b : Int), .func (.func 110) #[] #[]] (bx bb 116 ((l).flatMap encU ++ sp)) [] (.tuple #[]) (bx bb 116 ((insC a l (b - a - 1)).flatMap encU ++ sp)) := by
 refine FnC.intro Tryz.call173 Tryz.func173 rfl Tryz.ntmps173 rfl ?_; intro W M Rf; refine r_seq (r_region ?_); refine q_mv rfl rfl rfl rfl rfl ?_; refine o_q _ rfl rfl rfl (v_add rfl rfl rfl (by omega)) ?_; refine q_as rfl rfl rfl rfl rfl ?_; refine o_nil (r_then ?_); refine r_block ?_; refine r_loop (ι := Nat) (fun k => a + k + 1 ≤ b ∨ k = 0) (fun k => [(0, .slice (some ⟨bb, 0, none⟩) l.length cap), (1, i64 (a : Int)), (2, i64 (b : Int)), (3, .func (.func 110) #[] #[]), (8, i64 ((a + 1 + k : Nat) : Int))]) (fun k => bx bb 116 ((insC a l k).flatMap encU ++ sp) :: M) (fun k => Rf) (fun k => b + 1 - k) 0 ?_ ?_ ?_
 ·
  refine Imp.box_to bb ((insC a l 0).flatMap encU ++ sp) rfl ?_; exact r_here (by repeat (first | exact FSub.nil | refine FSub.cons rfl ?_ | refine FSub.cons2 rfl (congrArg (Value.int .i64) (by omega)) ?_)) SelMC.sel SubRC.sub
 ·
  omega
 ·
  rintro k hI0; have hkl := insC_len a l k; have hks := hsm.ins (a := a) k; refine r_seq ?_; refine r_seq (r_region ?_); refine q_mv rfl rfl rfl rfl rfl ?_; refine q_mv rfl rfl rfl rfl rfl ?_; refine o_q _ rfl rfl rfl (v_lss rfl rfl rfl) ?_; refine o_nil (r_then ?_); refine r_condd rfl (fun hc14 => ?_) (fun hc14 => ?_)
  ·
   refine r_skip (r_then ?_); refine r_seq (r_block ?_); refine r_seq (r_region ?_); refine q_mv rfl rfl rfl rfl rfl ?_; refine q_as rfl rfl rfl rfl rfl ?_; refine o_nil (r_then ?_); refine r_block ?_; refine r_loop (ι := Nat × List Nat) (fun gh => a ≤ gh.1 ∧ gh.1 ≤ a + 1 + k ∧ gh.2.length = l.length ∧ sinkC a gh.1 gh.2 = insC a l (k + 1) ∧ Sm gh.2) (fun gh => [(0, .slice (some ⟨bb, 0, none⟩) l.length cap), (1, i64 (a : Int)), (2, i64 (b : Int)), (3, .func (.func 110) #[] #[]), (8, i64 ((a + 1 + k : Nat) : Int)), (9, i64 (gh.1 : Int))]) (fun gh => bx bb 116 (gh.2.flatMap encU ++ sp) :: M) (fun gh => Rf) (fun gh => gh.1) (a + 1 + k, insC a l k) ?_ ?_ ?_
   ·
    exact r_here (by repeat (first | exact FSub.nil | refine FSub.cons rfl ?_ | refine FSub.cons2 rfl (congrArg (Value.int .i64) (by omega)) ?_)) SelMC.sel SubRC.sub
   ·
    exact ⟨by omega, Nat.le_refl _, hkl, rfl, hks⟩
   ·
    rintro ⟨j, c⟩ hI1; dsimp only at hI1; dsimp only; obtain ⟨hj1, hj2, hj3, hj4, hj5⟩ := hI1; refine r_seq ?_; refine r_seq ?_; refine r_region_q mixed (by kernel_rfl) ?_; refine q_q _ rfl rfl rfl (v_move rfl rfl) ?_; refine q_q _ rfl rfl rfl (v_move rfl rfl) ?_; refine q_test rfl rfl rfl (v_gtr rfl rfl rfl) (fun h20 => ?_) (fun h20 => ?_)
    all_goals
     refine q_q _ rfl rfl rfl (v_move rfl rfl) ?_
     first | refine q_gn rfl rfl rfl rfl ?_ | refine q_g _ rfl rfl rfl rfl (v_move rfl rfl) ?_
     first | refine q_gn rfl rfl rfl rfl ?_ | refine q_g _ rfl rfl rfl rfl (v_move rfl rfl) ?_
     first | refine q_gn rfl rfl rfl rfl ?_ | refine q_g _ rfl rfl rfl rfl (v_move rfl rfl) ?_
     first | refine q_gn rfl rfl rfl rfl ?_ | refine q_g _ rfl rfl rfl rfl (v_indexAddrB rfl Tryz.underlying119 inf116 rfl rfl (by omega)) ?_
     first | refine q_gn rfl rfl rfl rfl ?_ | refine q_g _ rfl rfl rfl rfl (v_ld1 (v := u64 (c.getD j default)) rfl Tryz.underlying116 rfl rfl (boxU_get (by omega))) ?_
     first | refine q_gn rfl rfl rfl rfl ?_ | refine q_g _ rfl rfl rfl rfl (v_move rfl rfl) ?_
     first | refine q_gn rfl rfl rfl rfl ?_ | refine q_g _ rfl rfl rfl rfl (v_move rfl rfl) ?_
     first | refine q_gn rfl rfl rfl rfl ?_ | refine q_g _ rfl rfl rfl rfl (v_cast (v := i64 ((j - 1 : Nat) : Int)) (v_sub rfl rfl rfl (by omega)) (congrArg (Value.int .i64) (by omega))) ?_
     first | refine q_gn rfl rfl rfl rfl ?_ | refine q_g _ rfl rfl rfl rfl (v_indexAddrB rfl Tryz.underlying119 inf116 rfl rfl (by omega)) ?_
     first | refine q_gn rfl rfl rfl rfl ?_ | refine q_g _ rfl rfl rfl rfl (v_ld1 (v := u64 (c.getD (j - 1) default)) rfl Tryz.underlying116 rfl rfl (boxU_get (by omega))) ?_
     first | refine q_gn rfl rfl rfl rfl ?_ | refine q_g _ rfl rfl rfl rfl (OpQ.call (cmp_v (c.getD j default) (c.getD (j - 1) default) (hj5 _) (hj5 _)) rfl [] [] rfl rfl rfl SubRC.sub) ?_
     first | refine q_gn rfl rfl rfl rfl ?_ | refine q_gtest rfl rfl rfl rfl (v_lss rfl rfl rfl) (fun h33 => ?_) (fun h33 => ?_)
     all_goals
      first | refine q_q _ rfl rfl rfl (v_pick_t rfl rfl rfl) ?_ | refine q_q _ rfl rfl rfl (v_pick_f rfl rfl rfl) ?_
      refine q_nil ?_; refine r_then ?_; refine r_cond rfl (fun hc34 => ?_) (fun hc34 => ?_)
      ·
       first
       | (exfalso; revert hc34; decide)
       |
        skip
        refine r_skip (r_then ?_); refine r_seq (r_block ?_); obtain ⟨i1, rfl⟩ : ∃ i1, j = i1 + 1 := ⟨j - 1, by omega⟩; have hsw := swpC_len c (i1 + 1) i1; have hcd : cnt (c.getD (i1 + 1 - 1) default) = cnt (c.getD i1 default) := rfl; refine r_parF [2, 3, 4] 14 (by kernel_rfl) (by kernel_rfl) (by kernel_rfl) (by kernel_rfl) (by kernel_rfl) mixed (by kernel_rfl) (by rfl) ?_; (iterate 4 refine p_q _ rfl rfl rfl (fun _ _ => v_move rfl rfl) ?_); refine p_q _ rfl rfl rfl (fun _ _ => v_cast (v := i64 ((i1 : Nat) : Int)) (v_sub rfl rfl rfl (by omega)) (congrArg (Value.int .i64) (by omega))) ?_; refine p_q _ rfl rfl rfl (fun _ _ => v_move rfl rfl) ?_; refine p_q _ rfl rfl rfl (fun _ _ => v_move rfl rfl) ?_; refine p_q _ rfl rfl rfl (fun _ _ => v_cast (v := i64 ((i1 : Nat) : Int)) (v_sub rfl rfl rfl (by omega)) (congrArg (Value.int .i64) (by omega))) ?_; refine p_q _ rfl rfl rfl (fun _ _ => v_indexAddrB rfl Tryz.underlying119 inf116 rfl rfl (by omega)) ?_; refine p_q _ rfl rfl rfl (fun _ _ => v_ld1 (v := u64 (c.getD i1 default)) rfl Tryz.underlying116 rfl rfl (boxU_get (by omega))) ?_; refine p_q _ rfl rfl rfl (fun _ _ => v_move rfl rfl) ?_; refine p_q _ rfl rfl rfl (fun _ _ => v_move rfl rfl) ?_; refine p_q _ rfl rfl rfl (fun _ _ => v_indexAddrB rfl Tryz.underlying119 inf116 rfl rfl (by omega)) ?_; refine p_q _ rfl rfl rfl (fun _ _ => v_ld1 (v := u64 (c.getD (i1 + 1) default)) rfl Tryz.underlying116 rfl rfl (boxU_get (by omega))) ?_; refine p_nilF (by simp only [List.nil_append, List.cons_append]; rfl) rfl ⟨⟨_, _, _, rfl, rfl, rfl, rfl, rfl, float_move rfl rfl⟩, ⟨_, _, _, rfl, rfl, rfl, rfl, rfl, float_move rfl rfl⟩, ⟨_, _, _, rfl, rfl, rfl, rfl, rfl, float_sub rfl rfl rfl (by omega) (show _ = ((i1 : Nat) : Int) by omega)⟩, trivial⟩ ?_; (iterate 14 refine f_q rfl ?_); refine f_nil ?_; refine o_q _ rfl rfl rfl (v_indexAddrB rfl Tryz.underlying119 inf116 rfl rfl (by omega)) ?_; refine o_st rfl inf116 rfl rfl rfl rfl rfl rfl rfl (boxU_ble (by omega)) ?_; refine Imp.box_to bb ((c.set (i1 + 1) (c.getD i1 default)).flatMap encU ++ sp) (boxU_set (by omega)) ?_; refine o_q _ rfl rfl rfl (v_indexAddrB rfl Tryz.underlying119 inf116 rfl rfl (by omega)) ?_; refine o_st rfl inf116 rfl rfl rfl rfl rfl rfl rfl (boxU_ble (by rw [List.length_set]; omega)) ?_; refine o_nil (r_nop ?_); refine r_in_normal ?_; refine r_then ?_; refine Imp.box_to bb ((swpC c (i1 + 1) i1).flatMap encU ++ sp) (boxU_set (by rw [List.length_set]; omega)) ?_; refine r_region ?_; refine q_mv rfl rfl rfl rfl rfl ?_
        refine o_q _ rfl rfl rfl (v_cast (v := i64 ((i1 : Nat) : Int)) (v_sub rfl rfl rfl (by omega)) (congrArg (Value.int .i64) (by omega))) ?_; refine q_as rfl rfl rfl rfl rfl ?_; refine o_nil (r_then ?_); exact r_next ((i1, swpC c (i1 + 1) i1)) (by exact r_here (by repeat (first | exact FSub.nil | refine FSub.cons rfl ?_ | refine FSub.cons2 rfl (congrArg (Value.int .i64) (by omega)) ?_)) SelMC.sel SubRC.sub) (by exact ⟨by omega, by omega, by rw [hsw]; exact hj3, by rw [← sinkC_y (j := i1) (l := c) (by omega) (by omega)]; exact hj4, hj5.swp _ _⟩) (by show i1 < i1 + 1; omega)
      ·
       first
       | (exfalso; revert hc34; decide)
       |
        skip
        refine r_exit ?_; refine r_then_exit ?_; refine r_then_exit ?_; refine r_in_here ?_; refine r_in_normal ?_; refine r_then ?_; refine r_region ?_; refine q_mv rfl rfl rfl rfl rfl ?_; refine o_q _ rfl rfl rfl (v_add rfl rfl rfl (by omega)) ?_; refine q_as rfl rfl rfl rfl rfl ?_; refine o_nil (r_then ?_); refine r_next (k + 1) ?_ ?_ ?_
        ·
         refine Imp.box_to bb ((insC a l (k + 1)).flatMap encU ++ sp) (by rw [← hj4, sinkC_n (by omega)]) ?_; exact r_here (by repeat (first | exact FSub.nil | refine FSub.cons rfl ?_ | refine FSub.cons2 rfl (congrArg (Value.int .i64) (by omega)) ?_)) SelMC.sel SubRC.sub
        ·
         omega
        ·
         omega
  ·
   refine r_exit ?_; refine r_then_exit ?_; refine r_then_exit ?_; refine r_in_here ?_; refine Imp.box_to bb ((insC a l (b - a - 1)).flatMap encU ++ sp) (by rw [show b - a - 1 = k from by omega]) ?_; exact r_ende [bx bb 116 ((insC a l (b - a - 1)).flatMap encU ++ sp)] [] (Rd.none rfl) ⟨rfl, rfl, rfl⟩ SelMC.sel SubRC.sub
end Go.Proofs.YtpndeonmmcaikaaGreat.DrW

namespace Go.Proofs.YtpndeonmmcaikaaGreat.DrW
open Go.G Foot4 Drain7
set_option maxRecDepth 1000000
attribute [local irreducible] G.ParO G.Fin
theorem float_addN {P : Program} {n : Nat} {L : Tm} {o : Oper} {t u : TypeId} {x y : Operand} {b c e : Int} (ho : o.op = .binOp .add t x y u) (hx : ev L x = some (.int .i64 b)) (hy : ev L y = some (.int .i64 c)) (he : b + c = e) (h : -9223372036854775808 ≤ e ∧ e ≤ 9223372036854775807) : ∀ a, FSat n L a → ∀ w, (execOp a.eval o).run P w = .ok (.value (.int .i64 e)) w := by
  subst he; exact float_add ho hx hy h
set_option maxHeartbeats 4000000 in
theorem swapR_s (l : List Nat) (hl : l.length ≤ 1000) (hsm : Sm l) (bb cap : Nat) (sp : List Value) (a b n : Nat) (ha : a + n ≤ l.length) (hb : b + n ≤ l.length) : FnC Tryz.prog 202 [.slice (some ⟨bb, 0, none⟩) l.length cap, i64 (a : Int), i64 (b : Int), i64 (n : Int), .func (.func 110) #[] #[]] (bx bb 116 ((l).flatMap encU ++ sp)) [] (.tuple #[]) (bx bb 116 ((swapR l a b n).flatMap encU ++ sp)) := by
 refine FnC.intro Tryz.call202 Tryz.func202 rfl Tryz.ntmps202 rfl ?_; intro W M Rf; refine r_seq (r_region ?_); refine q_as rfl rfl rfl rfl rfl ?_; refine o_nil (r_then ?_); refine r_block ?_; refine r_loop (ι := Nat) (fun k => k ≤ n) (fun k => [(0, .slice (some ⟨bb, 0, none⟩) l.length cap), (1, i64 (a : Int)), (2, i64 (b : Int)), (3, i64 (n : Int)), (4, .func (.func 110) #[] #[]), (10, i64 (k : Int))]) (fun k => bx bb 116 (((swapR l a b k)).flatMap encU ++ sp) :: M) (fun k => Rf) (fun k => n - k) 0 ?_ ?_ ?_
 ·
  refine Imp.box_to bb ((swapR l a b 0).flatMap encU ++ sp) rfl ?_; exact r_here (by repeat (first | exact FSub.nil | refine FSub.cons rfl ?_ | refine FSub.cons2 rfl (congrArg (Value.int .i64) (by omega)) ?_)) SelMC.sel SubRC.sub
 ·
  omega
 ·
  rintro k hI0; have hkl := swapR_len l a b k; refine r_seq ?_; refine r_seq (r_region ?_); refine q_mv rfl rfl rfl rfl rfl ?_; refine q_mv rfl rfl rfl rfl rfl ?_; refine o_q _ rfl rfl rfl (v_lss rfl rfl rfl) ?_; refine o_nil (r_then ?_); refine r_condd rfl (fun hc13 => ?_) (fun hc13 => ?_)
  ·
   refine r_skip (r_then ?_); refine r_seq (r_block ?_); refine r_parF [4, 5, 6, 7] 20 (by kernel_rfl) (by kernel_rfl) (by kernel_rfl) (by kernel_rfl) (by kernel_rfl) mixed (by kernel_rfl) (by rfl) ?_; (iterate 3 refine p_q _ rfl rfl rfl (fun _ _ => v_move rfl rfl) ?_); refine p_q _ rfl rfl rfl (fun _ _ => v_cast (v := i64 ((a + k : Nat) : Int)) (v_add rfl rfl rfl (by omega)) (congrArg (Value.int .i64) (by omega))) ?_; (iterate 3 refine p_q _ rfl rfl rfl (fun _ _ => v_move rfl rfl) ?_); refine p_q _ rfl rfl rfl (fun _ _ => v_cast (v := i64 ((b + k : Nat) : Int)) (v_add rfl rfl rfl (by omega)) (congrArg (Value.int .i64) (by omega))) ?_; (iterate 3 refine p_q _ rfl rfl rfl (fun _ _ => v_move rfl rfl) ?_); refine p_q _ rfl rfl rfl (fun _ _ => v_cast (v := i64 ((b + k : Nat) : Int)) (v_add rfl rfl rfl (by omega)) (congrArg (Value.int .i64) (by omega))) ?_; refine p_q _ rfl rfl rfl (fun _ _ => v_indexAddrB rfl Tryz.underlying119 inf116 rfl rfl (by omega)) ?_; refine p_q _ rfl rfl rfl (fun _ _ => v_ld1 (v := u64 ((swapR l a b k).getD (b + k) default)) rfl Tryz.underlying116 rfl rfl (boxU_get (by omega))) ?_; (iterate 3 refine p_q _ rfl rfl rfl (fun _ _ => v_move rfl rfl) ?_); refine p_q _ rfl rfl rfl (fun _ _ => v_cast (v := i64 ((a + k : Nat) : Int)) (v_add rfl rfl rfl (by omega)) (congrArg (Value.int .i64) (by omega))) ?_; refine p_q _ rfl rfl rfl (fun _ _ => v_indexAddrB rfl Tryz.underlying119 inf116 rfl rfl (by omega)) ?_; refine p_q _ rfl rfl rfl (fun _ _ => v_ld1 (v := u64 ((swapR l a b k).getD (a + k) default)) rfl Tryz.underlying116 rfl rfl (boxU_get (by omega))) ?_; refine p_nilF (by simp only [List.nil_append, List.cons_append]; rfl) rfl ⟨⟨_, _, _, rfl, rfl, rfl, rfl, rfl, float_move rfl rfl⟩, ⟨_, _, _, rfl, rfl, rfl, rfl, rfl, float_move rfl rfl⟩, ⟨_, _, _, rfl, rfl, rfl, rfl, rfl, float_move rfl rfl⟩, ⟨_, _, _, rfl, rfl, rfl, rfl, rfl, float_addN rfl rfl rfl (show _ = ((b + k : Nat) : Int) by omega) (by omega)⟩, trivial⟩ ?_; (iterate 20 refine f_q rfl ?_); refine f_nil ?_; refine o_q _ rfl rfl rfl (v_indexAddrB rfl Tryz.underlying119 inf116 rfl rfl (by omega)) ?_; refine o_st rfl inf116 rfl rfl rfl rfl rfl rfl rfl (boxU_ble (by omega)) ?_
   refine Imp.box_to bb (((swapR l a b k).set (a + k) ((swapR l a b k).getD (b + k) default)).flatMap encU ++ sp) (boxU_set (by omega)) ?_; refine o_q _ rfl rfl rfl (v_indexAddrB rfl Tryz.underlying119 inf116 rfl rfl (by omega)) ?_; refine o_st rfl inf116 rfl rfl rfl rfl rfl rfl rfl (boxU_ble (by rw [List.length_set]; omega)) ?_; refine o_nil (r_nop ?_); refine r_in_normal ?_; refine r_then ?_; refine Imp.box_to bb ((swapR l a b (k + 1)).flatMap encU ++ sp) (boxU_set (by rw [List.length_set]; omega)) ?_; refine r_region ?_; refine q_mv rfl rfl rfl rfl rfl ?_; refine o_q _ rfl rfl rfl (v_add rfl rfl rfl (by omega)) ?_; refine q_as rfl rfl rfl rfl rfl ?_; refine o_nil (r_then ?_); refine r_next (k + 1) ?_ ?_ ?_
   ·
    exact r_here (by repeat (first | exact FSub.nil | refine FSub.cons rfl ?_ | refine FSub.cons2 rfl (congrArg (Value.int .i64) (by omega)) ?_)) SelMC.sel SubRC.sub
   ·
    omega
   ·
    omega
  ·
   refine r_exit ?_; refine r_then_exit ?_; refine r_then_exit ?_; refine r_in_here ?_; obtain rfl : k = n := by omega
   exact r_ende [bx bb 116 ((swapR l a b k).flatMap encU ++ sp)] [] (Rd.none rfl) ⟨rfl, rfl, rfl⟩ SelMC.sel SubRC.sub
theorem swapR_n {c : List Nat} {n : Nat} (hn : c.length = n) (hl : c.length ≤ 1000) (hsm : Sm c) (bb cap : Nat) (sp : List Value) (a b k : Nat) (ha : a + k ≤ n) (hb : b + k ≤ n) : FnC Tryz.prog 202 [.slice (some ⟨bb, 0, none⟩) n cap, i64 (a : Int), i64 (b : Int), i64 (k : Int), .func (.func 110) #[] #[]] (bx bb 116 ((c).flatMap encU ++ sp)) [] (.tuple #[]) (bx bb 116 ((swapR c a b k).flatMap encU ++ sp)) := by
  subst hn
  exact swapR_s c hl hsm bb cap sp a b k ha hb
theorem ins_n {c : List Nat} {n : Nat} (hn : c.length = n) (hl : c.length ≤ 1000) (hsm : Sm c) (bb cap : Nat) (sp : List Value) (a b : Nat) (hab : a ≤ b) (hb : b ≤ n) : FnC Tryz.prog 173 [.slice (some ⟨bb, 0, none⟩) n cap, i64 (a : Int), i64 (b : Int), .func (.func 110) #[] #[]] (bx bb 116 ((c).flatMap encU ++ sp)) [] (.tuple #[]) (bx bb 116 ((insC a c (b - a - 1)).flatMap encU ++ sp)) := by
  subst hn
  exact ins_s c hl hsm bb cap sp a b hab hb
set_option maxHeartbeats 4000000 in
theorem rot_s (l : List Nat) (hl : l.length ≤ 1000) (hsm : Sm l) (bb cap : Nat) (sp : List Value) (a m b : Nat) (ham : a < m) (hmb : m < b) (hb : b ≤ l.length) : FnC Tryz.prog 198 [.slice (some ⟨bb, 0, none⟩) l.length cap, i64 (a : Int), i64 (m : Int), i64 (b : Int), .func (.func 110) #[] #[]] (bx bb 116 ((l).flatMap encU ++ sp)) [] (.tuple #[]) (bx bb 116 ((rotC l a m b).flatMap encU ++ sp)) := by
 refine FnC.intro Tryz.call198 Tryz.func198 rfl Tryz.ntmps198 rfl ?_; intro W M Rf; refine r_seq (r_region ?_); refine q_mv rfl rfl rfl rfl rfl ?_; refine q_mv rfl rfl rfl rfl rfl ?_; refine o_q _ rfl rfl rfl (v_cast (v := i64 ((m - a : Nat) : Int)) (v_sub rfl rfl rfl (by omega)) (congrArg (Value.int .i64) (by omega))) ?_; refine q_as rfl rfl rfl rfl rfl ?_; refine o_nil (r_then (r_seq (r_region ?_))); refine q_mv rfl rfl rfl rfl rfl ?_; refine q_mv rfl rfl rfl rfl rfl ?_; refine o_q _ rfl rfl rfl (v_cast (v := i64 ((b - m : Nat) : Int)) (v_sub rfl rfl rfl (by omega)) (congrArg (Value.int .i64) (by omega))) ?_; refine q_as rfl rfl rfl rfl rfl ?_; refine o_nil (r_then ?_); refine r_seq (r_block ?_); refine r_loop (ι := Nat × List Nat × Nat × Nat) (fun gh => (1 ≤ gh.2.2.1 ∧ 1 ≤ gh.2.2.2) ∧ (gh.2.2.1 ≤ m ∧ m + gh.2.2.2 ≤ l.length) ∧ gh.2.2.1 + gh.2.2.2 ≤ gh.1 ∧ gh.2.1.length = l.length ∧ Sm gh.2.1 ∧ rotK m gh.1 gh.2.1 gh.2.2.1 gh.2.2.2 = rotC l a m b) (fun gh => [(0, .slice (some ⟨bb, 0, none⟩) l.length cap), (1, i64 (a : Int)), (2, i64 (m : Int)), (3, i64 (b : Int)), (4, .func (.func 110) #[] #[]), (10, i64 (gh.2.2.1 : Int)), (11, i64 (gh.2.2.2 : Int))]) (fun gh => bx bb 116 ((gh.2.1).flatMap encU ++ sp) :: M) (fun gh => Rf) (fun gh => gh.2.2.1 + gh.2.2.2) (b - a + 1, l, m - a, b - m) ?_ ?_ ?_
 ·
  exact r_here (by repeat (first | exact FSub.nil | refine FSub.cons rfl ?_ | refine FSub.cons2 rfl (congrArg (Value.int .i64) (by omega)) ?_)) SelMC.sel SubRC.sub
 ·
  exact ⟨⟨by show 1 ≤ m - a; omega, by show 1 ≤ b - m; omega⟩, ⟨by show m - a ≤ m; omega, by show m + (b - m) ≤ _; omega⟩, by show m - a + (b - m) ≤ b - a + 1; omega, rfl, hsm, rfl⟩
 ·
  rintro ⟨f, c, i, j⟩ hI0; dsimp only at hI0; dsimp only; obtain ⟨⟨hi1, hj1⟩, ⟨hi2, hj2⟩, hf, hc1, hc2, hrot⟩ := hI0; obtain ⟨f, rfl⟩ : ∃ q, f = q + 1 := ⟨f - 1, by omega⟩; refine r_seq ?_; refine r_seq (r_region ?_); refine q_mv rfl rfl rfl rfl rfl ?_; refine q_mv rfl rfl rfl rfl rfl ?_; refine o_q _ rfl rfl rfl (v_neq rfl rfl rfl) ?_; refine o_nil (r_then ?_); refine r_condd rfl (fun hc20 => ?_) (fun hc20 => ?_)
  ·
   refine r_skip (r_then ?_); refine r_block ?_; refine r_seq (r_region ?_); refine q_mv rfl rfl rfl rfl rfl ?_; refine q_mv rfl rfl rfl rfl rfl ?_; refine o_q _ rfl rfl rfl (v_gtr rfl rfl rfl) ?_; refine o_nil (r_then ?_); refine r_condd rfl (fun hc23 => ?_) (fun hc23 => ?_)
   ·
    refine r_seq (r_region ?_); (iterate 3 refine q_mv rfl rfl rfl rfl rfl ?_); refine o_q _ rfl rfl rfl (v_cast (v := i64 ((m - i : Nat) : Int)) (v_sub rfl rfl rfl (by omega)) (congrArg (Value.int .i64) (by omega))) ?_; (iterate 3 refine q_mv rfl rfl rfl rfl rfl ?_); refine o_fnc (swapR_n hc1 (by omega) hc2 bb cap sp (m - i) m j (by omega) (by omega)) rfl [] [] rfl rfl rfl rfl rfl rfl SubRC.sub ?_; refine o_nil (r_then ?_); refine r_region ?_; refine q_mv rfl rfl rfl rfl rfl ?_; refine q_mv rfl rfl rfl rfl rfl ?_; refine o_q _ rfl rfl rfl (v_cast (v := i64 ((i - j : Nat) : Int)) (v_sub rfl rfl rfl (by omega)) (congrArg (Value.int .i64) (by omega))) ?_; refine q_as rfl rfl rfl rfl rfl ?_; refine o_nil ?_; refine r_in_normal ?_; refine r_then ?_; exact r_next ((f, swapR c (m - i) m j, i - j, j)) (by exact r_here (by repeat (first | exact FSub.nil | refine FSub.cons rfl ?_ | refine FSub.cons2 rfl (congrArg (Value.int .i64) (by omega)) ?_)) SelMC.sel SubRC.sub) (by exact ⟨⟨by show 1 ≤ i - j; omega, hj1⟩, ⟨by show i - j ≤ m; omega, hj2⟩, by show i - j + j ≤ f; omega, (swapR_len ..).trans hc1, hc2.swapR _, by rw [← hrot, rotK_g (by omega)]⟩) (by show i - j + j < i + j; omega)
   ·
    refine r_seq (r_region ?_); (iterate 3 refine q_mv rfl rfl rfl rfl rfl ?_); refine o_q _ rfl rfl rfl (v_cast (v := i64 ((m - i : Nat) : Int)) (v_sub rfl rfl rfl (by omega)) (congrArg (Value.int .i64) (by omega))) ?_; refine q_mv rfl rfl rfl rfl rfl ?_; refine q_mv rfl rfl rfl rfl rfl ?_; refine o_q _ rfl rfl rfl (v_cast (v := i64 ((m + j : Nat) : Int)) (v_add rfl rfl rfl (by omega)) (congrArg (Value.int .i64) (by omega))) ?_; refine q_mv rfl rfl rfl rfl rfl ?_; refine o_q _ rfl rfl rfl (v_cast (v := i64 ((m + j - i : Nat) : Int)) (v_sub rfl rfl rfl (by omega)) (congrArg (Value.int .i64) (by omega))) ?_; refine q_mv rfl rfl rfl rfl rfl ?_; refine q_mv rfl rfl rfl rfl rfl ?_; refine o_fnc (swapR_n hc1 (by omega) hc2 bb cap sp (m - i) (m + j - i) i (by omega) (by omega)) rfl [] [] rfl rfl rfl rfl rfl rfl SubRC.sub ?_; refine o_nil (r_then ?_); refine r_region ?_; refine q_mv rfl rfl rfl rfl rfl ?_; refine q_mv rfl rfl rfl rfl rfl ?_; refine o_q _ rfl rfl rfl (v_cast (v := i64 ((j - i : Nat) : Int)) (v_sub rfl rfl rfl (by omega)) (congrArg (Value.int .i64) (by omega))) ?_; refine q_as rfl rfl rfl rfl rfl ?_; refine o_nil ?_; refine r_in_normal ?_; refine r_then ?_; exact r_next ((f, swapR c (m - i) (m + j - i) i, i, j - i)) (by exact r_here (by repeat (first | exact FSub.nil | refine FSub.cons rfl ?_ | refine FSub.cons2 rfl (congrArg (Value.int .i64) (by omega)) ?_)) SelMC.sel SubRC.sub) (by exact ⟨⟨hi1, by show 1 ≤ j - i; omega⟩, ⟨hi2, by show m + (j - i) ≤ _; omega⟩, by show i + (j - i) ≤ f; omega, (swapR_len ..).trans hc1, hc2.swapR _, by rw [← hrot, rotK_l (by omega)]⟩) (by show i + (j - i) < i + j; omega)
  ·
   refine r_exit ?_; refine r_then_exit ?_; refine r_then_exit ?_; refine r_in_here ?_; refine r_then ?_; refine r_region ?_; (iterate 3 refine q_mv rfl rfl rfl rfl rfl ?_); refine o_q _ rfl rfl rfl (v_cast (v := i64 ((m - i : Nat) : Int)) (v_sub rfl rfl rfl (by omega)) (congrArg (Value.int .i64) (by omega))) ?_; (iterate 3 refine q_mv rfl rfl rfl rfl rfl ?_); refine o_fnc (swapR_n hc1 (by omega) hc2 bb cap sp (m - i) m i (by omega) (by omega)) rfl [] [] rfl rfl rfl rfl rfl rfl SubRC.sub ?_; refine o_nil ?_; refine Imp.box_to bb ((rotC l a m b).flatMap encU ++ sp) (by rw [← hrot, rotK_e (by omega)]) ?_; exact r_ende [bx bb 116 ((rotC l a m b).flatMap encU ++ sp)] [] (Rd.none rfl) ⟨rfl, rfl, rfl⟩ SelMC.sel SubRC.sub
theorem rot_n {c : List Nat} {n : Nat} (hn : c.length = n) (hl : c.length ≤ 1000) (hsm : Sm c) (bb cap : Nat) (sp : List Value) (a m b : Nat) (ham : a < m) (hmb : m < b) (hb : b ≤ n) : FnC Tryz.prog 198 [.slice (some ⟨bb, 0, none⟩) n cap, i64 (a : Int), i64 (m : Int), i64 (b : Int), .func (.func 110) #[] #[]] (bx bb 116 ((c).flatMap encU ++ sp)) [] (.tuple #[]) (bx bb 116 ((rotC c a m b).flatMap encU ++ sp)) := by
  subst hn
  exact rot_s c hl hsm bb cap sp a m b ham hmb hb
end Go.Proofs.YtpndeonmmcaikaaGreat.DrW

namespace Go.Proofs.YtpndeonmmcaikaaGreat.DrW
open Go.G Foot4 Drain7
set_option maxRecDepth 1000000
attribute [local irreducible] G.ParO G.Fin
def s0C (a m b : Nat) : Nat := if (a + b) / 2 < m then (a + b) / 2 + m - b else a
def r0C (a m b : Nat) : Nat := if (a + b) / 2 < m then (a + b) / 2 else m
theorem s0C_y {a m b : Nat} (h : (a + b) / 2 < m) : s0C a m b = (a + b) / 2 + m - b := if_pos h
theorem s0C_n {a m b : Nat} (h : ¬ (a + b) / 2 < m) : s0C a m b = a := if_neg h
theorem r0C_y {a m b : Nat} (h : (a + b) / 2 < m) : r0C a m b = (a + b) / 2 := if_pos h
theorem r0C_n {a m b : Nat} (h : ¬ (a + b) / 2 < m) : r0C a m b = m := if_neg h
theorem stC_eq (l : List Nat) (a m b : Nat) : stC l a m b = bsK (q3 l ((a + b) / 2 + m - 1)) (b - a) (s0C a m b) (r0C a m b) := by
  unfold stC s0C r0C
  split <;> rfl
theorem s0_bd {a m b : Nat} (h1 : a < m) (h2 : m < b) : (a ≤ s0C a m b ∧ s0C a m b ≤ r0C a m b) ∧ (r0C a m b ≤ m ∧ r0C a m b ≤ (a + b) / 2) ∧ (a + b) / 2 + m ≤ s0C a m b + b ∧ r0C a m b - s0C a m b ≤ b - a := by
  unfold s0C r0C
  split <;> omega
def l2C (f : Nat) (l : List Nat) (a m b : Nat) : List Nat := if a < stC l a m b ∧ stC l a m b < (a + b) / 2 then symC f (roC l a m b) a (stC l a m b) ((a + b) / 2) else roC l a m b
theorem l2C_len (f : Nat) (l : List Nat) (a m b : Nat) : (l2C f l a m b).length = l.length := by
  unfold l2C
  split
  · rw [symC_len, roC_len]
  · exact roC_len ..
theorem l2C_sm {f : Nat} {l : List Nat} {a m b : Nat} (h : Sm l) : Sm (l2C f l a m b) := by
  unfold l2C
  split
  · exact Sm.symC f _ _ _ h.roC
  · exact h.roC
theorem symC_1 {f : Nat} {l : List Nat} {a m b : Nat} (h : m - a = 1) : symC (f + 1) l a m b = upC l a (bsK (q1 l a) (b - m) m b - 1 - a) := if_pos h
theorem symC_2 {f : Nat} {l : List Nat} {a m b : Nat} (h : ¬ m - a = 1) (h2 : b - m = 1) : symC (f + 1) l a m b = dnC l m (m - bsK (q2 l m) (m - a) a m) := (if_neg h).trans (if_pos h2)
theorem symC_3 {f : Nat} {l : List Nat} {a m b : Nat} (h : ¬ m - a = 1) (h2 : ¬ b - m = 1) : symC (f + 1) l a m b = if (a + b) / 2 < (a + b) / 2 + m - stC l a m b ∧ (a + b) / 2 + m - stC l a m b < b then symC f (l2C f l a m b) ((a + b) / 2) ((a + b) / 2 + m - stC l a m b) b else l2C f l a m b := (if_neg h).trans (if_neg h2)
theorem q1_t {l : List Nat} {a h : Nat} (hq : cnt (l.getD h default) < cnt (l.getD a default)) : q1 l a h = true := decide_eq_true hq
theorem q1_f {l : List Nat} {a h : Nat} (hq : ¬ cnt (l.getD h default) < cnt (l.getD a default)) : ¬ q1 l a h = true := fun h => hq (of_decide_eq_true h)
theorem q2_t {l : List Nat} {m h : Nat} (hq : ¬ cnt (l.getD m default) < cnt (l.getD h default)) : q2 l m h = true := by show (! decide _) = true; rw [decide_eq_false hq]; rfl
theorem q2_f {l : List Nat} {m h : Nat} (hq : cnt (l.getD m default) < cnt (l.getD h default)) : ¬ q2 l m h = true := by show ¬ (! decide _) = true; rw [decide_eq_true hq]; decide
theorem q3_t {l : List Nat} {p c : Nat} (hq : ¬ cnt (l.getD (p - c) default) < cnt (l.getD c default)) : q3 l p c = true := by show (! decide _) = true; rw [decide_eq_false hq]; rfl
theorem q3_f {l : List Nat} {p c : Nat} (hq : cnt (l.getD (p - c) default) < cnt (l.getD c default)) : ¬ q3 l p c = true := by show ¬ (! decide _) = true; rw [decide_eq_true hq]; decide
theorem roC_y {l : List Nat} {a m b : Nat} (h : stC l a m b < m ∧ m < (a + b) / 2 + m - stC l a m b) : roC l a m b = rotC l (stC l a m b) m ((a + b) / 2 + m - stC l a m b) := if_pos h
theorem roC_n {l : List Nat} {a m b : Nat} (h : ¬ (stC l a m b < m ∧ m < (a + b) / 2 + m - stC l a m b)) : roC l a m b = l := if_neg h
theorem l2C_y {f : Nat} {l : List Nat} {a m b : Nat} (h : a < stC l a m b ∧ stC l a m b < (a + b) / 2) : l2C f l a m b = symC f (roC l a m b) a (stC l a m b) ((a + b) / 2) := if_pos h
theorem l2C_n {f : Nat} {l : List Nat} {a m b : Nat} (h : ¬ (a < stC l a m b ∧ stC l a m b < (a + b) / 2)) : l2C f l a m b = roC l a m b := if_neg h
theorem roC_l0 (l : List Nat) : l.length = l.length := rfl
set_option maxHeartbeats 4000000 in
theorem sym_s (l : List Nat) (hl : l.length ≤ 1000) (hsm : Sm l) (bb cap : Nat) (sp : List Value) (a m b : Nat) (hAM : a < m) (hMB : m < b) (hb : b ≤ l.length) (f0 : Nat) (ih : ∀ (c : List Nat) (n : Nat), c.length = n → c.length ≤ 1000 → Sm c → ∀ (a m b : Nat), a < m → m < b → b ≤ n → b - a ≤ 2 ^ f0 → FnC Tryz.prog 174 [.slice (some ⟨bb, 0, none⟩) n cap, i64 (a : Int), i64 (m : Int), i64 (b : Int), .func (.func 110) #[] #[]] (bx bb 116 (c.flatMap encU ++ sp)) [] (.tuple #[]) (bx bb 116 ((symC f0 c a m b).flatMap encU ++ sp))) (hf : b - a ≤ 2 ^ (f0 + 1)) : FnC Tryz.prog 174 [.slice (some ⟨bb, 0, none⟩) l.length cap, i64 (a : Int), i64 (m : Int), i64 (b : Int), .func (.func 110) #[] #[]] (bx bb 116 ((l).flatMap encU ++ sp)) [] (.tuple #[]) (bx bb 116 ((symC (f0 + 1) l a m b).flatMap encU ++ sp)) := by
 refine FnC.intro Tryz.call174 Tryz.func174 rfl Tryz.ntmps174 rfl ?_; intro W M Rf; refine r_seq ?_; refine r_seq ?_; have h2f : 2 ^ (f0 + 1) = 2 * 2 ^ f0 := by rw [Nat.pow_succ]; omega
 refine r_region ?_; refine q_mv rfl rfl rfl rfl rfl ?_; refine q_mv rfl rfl rfl rfl rfl ?_; refine o_q _ rfl rfl rfl (v_cast (v := i64 ((m - a : Nat) : Int)) (v_sub rfl rfl rfl (by omega)) (congrArg (Value.int .i64) (by omega))) ?_; refine o_q _ rfl rfl rfl (v_eql rfl rfl rfl) ?_; refine o_nil (r_then ?_); refine r_condd rfl (fun hc28 => ?_) (fun hc28 => ?_)
 ·
  refine r_seq (r_region ?_); refine q_mv rfl rfl rfl rfl rfl ?_; refine q_as rfl rfl rfl rfl rfl ?_; refine o_nil (r_then (r_seq (r_region ?_))); refine q_mv rfl rfl rfl rfl rfl ?_; refine q_as rfl rfl rfl rfl rfl ?_; refine o_nil (r_then ?_); refine r_seq (r_block ?_); refine r_loop (ι := Nat × Nat × Nat) (fun gh => (m ≤ gh.2.1 ∧ gh.2.1 ≤ gh.2.2) ∧ gh.2.2 ≤ b ∧ gh.2.2 - gh.2.1 ≤ gh.1 ∧ bsK (q1 l a) gh.1 gh.2.1 gh.2.2 = bsK (q1 l a) (b - m) (m) (b)) (fun gh => [(0, .slice (some ⟨bb, 0, none⟩) l.length cap), (1, i64 (a : Int)), (2, i64 (m : Int)), (3, i64 (b : Int)), (4, .func (.func 110) #[] #[]), (10, i64 (gh.2.1 : Int)), (11, i64 (gh.2.2 : Int))]) (fun gh => bx bb 116 ((l).flatMap encU ++ sp) :: M) (fun gh => Rf) (fun gh => gh.2.2 - gh.2.1) (b - m, m, b) ?_ ?_ ?_
  ·
   exact r_here (by repeat (first | exact FSub.nil | refine FSub.cons rfl ?_ | refine FSub.cons2 rfl (congrArg (Value.int .i64) (by omega)) ?_)) SelMC.sel SubRC.sub
  ·
   exact ⟨⟨Nat.le_refl _, by show m ≤ b; omega⟩, Nat.le_refl _, by show b - m ≤ b - m; omega, rfl⟩
  ·
   rintro ⟨f, x, y⟩ hI0; dsimp only at hI0; dsimp only; obtain ⟨⟨hx1, hx2⟩, hx3, hx4, hbs⟩ := hI0; refine r_seq ?_; refine r_seq (r_region ?_); refine q_mv rfl rfl rfl rfl rfl ?_; refine q_mv rfl rfl rfl rfl rfl ?_; refine o_q _ rfl rfl rfl (v_lss rfl rfl rfl) ?_; refine o_nil (r_then ?_); refine r_condd rfl (fun hc33 => ?_) (fun hc33 => ?_)
   ·
    refine r_skip (r_then ?_); refine r_block ?_; refine r_seq (r_region ?_); refine q_mv rfl rfl rfl rfl rfl ?_; refine q_mv rfl rfl rfl rfl rfl ?_; refine o_q _ rfl rfl rfl (v_cast (v := i64 ((x + y : Nat) : Int)) (v_add rfl rfl rfl (by omega)) (congrArg (Value.int .i64) (by omega))) ?_; refine o_q _ rfl rfl rfl (v_conv rfl Tryz.underlying3 Tryz.underlying116 rfl (IntWalk.u64_in _ (by omega))) ?_; refine o_q _ rfl rfl rfl (v_shrK ((x + y) / 2) rfl rfl rfl (by omega) (by decide) (by rw [Nat.shiftRight_eq_div_pow])) ?_; refine o_q _ rfl rfl rfl (v_conv rfl Tryz.underlying116 Tryz.underlying3 rfl (IntWalk.i64_in _ (by omega))) ?_; refine q_as rfl rfl rfl rfl rfl ?_; refine o_nil (r_then (r_seq ?_)); refine r_region_q mixed (by kernel_rfl) ?_; (iterate 3 refine q_q _ rfl rfl rfl (v_move rfl rfl) ?_); refine q_q _ rfl rfl rfl (v_indexAddrB rfl Tryz.underlying119 inf116 rfl rfl (by omega)) ?_; refine q_q _ rfl rfl rfl (v_ld1 (v := u64 (l.getD ((x + y) / 2) default)) rfl Tryz.underlying116 rfl rfl (boxU_get (by omega))) ?_; refine q_q _ rfl rfl rfl (v_move rfl rfl) ?_; refine q_q _ rfl rfl rfl (v_move rfl rfl) ?_; refine q_q _ rfl rfl rfl (v_indexAddrB rfl Tryz.underlying119 inf116 rfl rfl (by omega)) ?_; refine q_q _ rfl rfl rfl (v_ld1 (v := u64 (l.getD a default)) rfl Tryz.underlying116 rfl rfl (boxU_get (by omega))) ?_; refine q_q _ rfl rfl rfl (OpQ.call (cmp_v (l.getD ((x + y) / 2) default) (l.getD a default) (hsm _) (hsm _)) rfl [] [] rfl rfl rfl SubRC.sub) ?_; refine q_q _ rfl rfl rfl (v_lss rfl rfl rfl) ?_; refine q_nil ?_; refine r_then ?_; refine r_condd rfl (fun hc50 => ?_) (fun hc50 => ?_)
    ·
     refine r_region ?_; refine q_mv rfl rfl rfl rfl rfl ?_; refine o_q _ rfl rfl rfl (v_cast (v := i64 (((x + y) / 2 + 1 : Nat) : Int)) (v_add rfl rfl rfl (by omega)) (congrArg (Value.int .i64) (by omega))) ?_; refine q_as rfl rfl rfl rfl rfl ?_; refine o_nil ?_; refine r_in_normal ?_; refine r_then ?_; exact r_next ((f - 1, (x + y) / 2 + 1, y)) (by exact r_here (by repeat (first | exact FSub.nil | refine FSub.cons rfl ?_ | refine FSub.cons2 rfl (congrArg (Value.int .i64) (by omega)) ?_)) SelMC.sel SubRC.sub) (by obtain ⟨f9, rfl⟩ : ∃ q, f = q + 1 := ⟨f - 1, by omega⟩; exact ⟨⟨by show _ ≤ (x + y) / 2 + 1; omega, by show (x + y) / 2 + 1 ≤ y; omega⟩, hx3, by show y - ((x + y) / 2 + 1) ≤ f9; omega, by show bsK _ f9 ((x + y) / 2 + 1) y = _; rw [← hbs]; exact (bsK_t (by omega) (q1_t (by omega))).symm⟩) (by show y - ((x + y) / 2 + 1) < y - x; omega)
    ·
     refine r_region ?_; refine q_mv rfl rfl rfl rfl rfl ?_; refine q_as rfl rfl rfl rfl rfl ?_; refine o_nil ?_; refine r_in_normal ?_; refine r_then ?_; exact r_next ((f - 1, x, (x + y) / 2)) (by exact r_here (by repeat (first | exact FSub.nil | refine FSub.cons rfl ?_ | refine FSub.cons2 rfl (congrArg (Value.int .i64) (by omega)) ?_)) SelMC.sel SubRC.sub) (by obtain ⟨f9, rfl⟩ : ∃ q, f = q + 1 := ⟨f - 1, by omega⟩; exact ⟨⟨hx1, by show x ≤ (x + y) / 2; omega⟩, by show (x + y) / 2 ≤ _; omega, by show (x + y) / 2 - x ≤ f9; omega, by show bsK _ f9 x ((x + y) / 2) = _; rw [← hbs]; exact (bsK_f (by omega) (q1_f (by omega))).symm⟩) (by show (x + y) / 2 - x < y - x; omega)
   ·
    refine r_exit ?_; refine r_then_exit ?_; refine r_then_exit ?_; refine r_in_here ?_; refine r_then (r_seq ?_); refine r_seq ?_; have hX := bsK_bd (q := q1 l a) (b - m) m b (by omega); have hx9 : bsK (q1 l a) (b - m) m b = x := by rw [← hbs]; exact bsK_n (by omega)
    refine r_region ?_; refine q_mv rfl rfl rfl rfl rfl ?_; refine q_as rfl rfl rfl rfl rfl ?_; refine o_nil (r_then ?_); refine r_block ?_; refine r_loop (ι := Nat) (fun t => t ≤ x - 1 - a) (fun t => [(0, .slice (some ⟨bb, 0, none⟩) l.length cap), (1, i64 (a : Int)), (2, i64 (m : Int)), (3, i64 (b : Int)), (4, .func (.func 110) #[] #[]), (10, i64 (x : Int)), (13, i64 ((a + t : Nat) : Int))]) (fun t => bx bb 116 ((upC l a t).flatMap encU ++ sp) :: M) (fun t => Rf) (fun t => x - t) 0 ?_ ?_ ?_
    ·
     refine Imp.box_to bb ((upC l a 0).flatMap encU ++ sp) rfl ?_; exact r_here (by repeat (first | exact FSub.nil | refine FSub.cons rfl ?_ | refine FSub.cons2 rfl (congrArg (Value.int .i64) (by omega)) ?_)) SelMC.sel SubRC.sub
    ·
     omega
    ·
     rintro t hI1; have hkl := upC_len l a t; refine r_seq ?_; refine r_seq (r_region ?_); refine q_mv rfl rfl rfl rfl rfl ?_; refine q_mv rfl rfl rfl rfl rfl ?_; refine o_q _ rfl rfl rfl (v_cast (v := i64 ((x - 1 : Nat) : Int)) (v_sub rfl rfl rfl (by omega)) (congrArg (Value.int .i64) (by omega))) ?_; refine o_q _ rfl rfl rfl (v_lss rfl rfl rfl) ?_; refine o_nil (r_then ?_); refine r_condd rfl (fun hc58 => ?_) (fun hc58 => ?_)
     ·
      refine r_skip (r_then ?_); refine r_seq (r_block ?_); refine r_parF [2, 3, 4] 14 (by kernel_rfl) (by kernel_rfl) (by kernel_rfl) (by kernel_rfl) (by kernel_rfl) mixed (by kernel_rfl) (by rfl) ?_; (iterate 4 refine p_q _ rfl rfl rfl (fun _ _ => v_move rfl rfl) ?_); refine p_q _ rfl rfl rfl (fun _ _ => v_cast (v := i64 ((a + t + 1 : Nat) : Int)) (v_add rfl rfl rfl (by omega)) (congrArg (Value.int .i64) (by omega))) ?_; refine p_q _ rfl rfl rfl (fun _ _ => v_move rfl rfl) ?_; refine p_q _ rfl rfl rfl (fun _ _ => v_move rfl rfl) ?_; refine p_q _ rfl rfl rfl (fun _ _ => v_cast (v := i64 ((a + t + 1 : Nat) : Int)) (v_add rfl rfl rfl (by omega)) (congrArg (Value.int .i64) (by omega))) ?_; refine p_q _ rfl rfl rfl (fun _ _ => v_indexAddrB rfl Tryz.underlying119 inf116 rfl rfl (by omega)) ?_; refine p_q _ rfl rfl rfl (fun _ _ => v_ld1 (v := u64 ((upC l a t).getD (a + t + 1) default)) rfl Tryz.underlying116 rfl rfl (boxU_get (by omega))) ?_; refine p_q _ rfl rfl rfl (fun _ _ => v_move rfl rfl) ?_; refine p_q _ rfl rfl rfl (fun _ _ => v_move rfl rfl) ?_; refine p_q _ rfl rfl rfl (fun _ _ => v_indexAddrB rfl Tryz.underlying119 inf116 rfl rfl (by omega)) ?_; refine p_q _ rfl rfl rfl (fun _ _ => v_ld1 (v := u64 ((upC l a t).getD (a + t) default)) rfl Tryz.underlying116 rfl rfl (boxU_get (by omega))) ?_; refine p_nilF (by simp only [List.nil_append, List.cons_append]; rfl) rfl ⟨⟨_, _, _, rfl, rfl, rfl, rfl, rfl, float_move rfl rfl⟩, ⟨_, _, _, rfl, rfl, rfl, rfl, rfl, float_move rfl rfl⟩, ⟨_, _, _, rfl, rfl, rfl, rfl, rfl, float_addN rfl rfl rfl (show _ = ((a + t + 1 : Nat) : Int) by omega) (by omega)⟩, trivial⟩ ?_; (iterate 14 refine f_q rfl ?_); refine f_nil ?_; refine o_q _ rfl rfl rfl (v_indexAddrB rfl Tryz.underlying119 inf116 rfl rfl (by omega)) ?_; refine o_st rfl inf116 rfl rfl rfl rfl rfl rfl rfl (boxU_ble (by omega)) ?_; refine Imp.box_to bb (((upC l a t).set (a + t) ((upC l a t).getD (a + t + 1) default)).flatMap encU ++ sp) (boxU_set (by omega)) ?_; refine o_q _ rfl rfl rfl (v_indexAddrB rfl Tryz.underlying119 inf116 rfl rfl (by omega)) ?_; refine o_st rfl inf116 rfl rfl rfl rfl rfl rfl rfl (boxU_ble (by rw [List.length_set]; omega)) ?_; refine o_nil (r_nop ?_); refine r_in_normal ?_; refine r_then ?_; refine Imp.box_to bb ((upC l a (t + 1)).flatMap encU ++ sp) (boxU_set (by rw [List.length_set]; omega)) ?_; refine r_region ?_; refine q_mv rfl rfl rfl rfl rfl ?_; refine o_q _ rfl rfl rfl (v_cast (v := i64 ((a + (t + 1) : Nat) : Int)) (v_add rfl rfl rfl (by omega)) (congrArg (Value.int .i64) (by omega))) ?_
      refine q_as rfl rfl rfl rfl rfl ?_; refine o_nil (r_then ?_); refine r_next (t + 1) ?_ ?_ ?_
      ·
       exact r_here (by repeat (first | exact FSub.nil | refine FSub.cons rfl ?_ | refine FSub.cons2 rfl (congrArg (Value.int .i64) (by omega)) ?_)) SelMC.sel SubRC.sub
      ·
       omega
      ·
       omega
     ·
      refine r_exit ?_; refine r_then_exit ?_; refine r_then_exit ?_; refine r_in_here ?_; refine r_then ?_; refine r_ret ?_; (with_reducible refine r_then_ret ?_)
      (refine Imp.box_to bb ((symC (f0 + 1) l a m b).flatMap encU ++ sp) (by rw [symC_1 (by omega), hx9, show x - 1 - a = t from by omega]) ?_; exact r_rete [bx bb 116 ((symC (f0 + 1) l a m b).flatMap encU ++ sp)] [] (Rd.none rfl) ⟨rfl, rfl, rfl⟩ SelMC.sel SubRC.sub)
 ·
  refine r_skip (r_then ?_); refine r_seq ?_; refine r_seq (r_region ?_); refine q_mv rfl rfl rfl rfl rfl ?_; refine q_mv rfl rfl rfl rfl rfl ?_; refine o_q _ rfl rfl rfl (v_cast (v := i64 ((b - m : Nat) : Int)) (v_sub rfl rfl rfl (by omega)) (congrArg (Value.int .i64) (by omega))) ?_; refine o_q _ rfl rfl rfl (v_eql rfl rfl rfl) ?_; refine o_nil (r_then ?_); refine r_condd rfl (fun hc80 => ?_) (fun hc80 => ?_)
  ·
   refine r_seq (r_region ?_); refine q_mv rfl rfl rfl rfl rfl ?_; refine q_as rfl rfl rfl rfl rfl ?_; refine o_nil (r_then (r_seq (r_region ?_))); refine q_mv rfl rfl rfl rfl rfl ?_; refine q_as rfl rfl rfl rfl rfl ?_; refine o_nil (r_then ?_); refine r_seq (r_block ?_); refine r_loop (ι := Nat × Nat × Nat) (fun gh => (a ≤ gh.2.1 ∧ gh.2.1 ≤ gh.2.2) ∧ gh.2.2 ≤ m ∧ gh.2.2 - gh.2.1 ≤ gh.1 ∧ bsK (q2 l m) gh.1 gh.2.1 gh.2.2 = bsK (q2 l m) (m - a) (a) (m)) (fun gh => [(0, .slice (some ⟨bb, 0, none⟩) l.length cap), (1, i64 (a : Int)), (2, i64 (m : Int)), (3, i64 (b : Int)), (4, .func (.func 110) #[] #[]), (14, i64 (gh.2.1 : Int)), (15, i64 (gh.2.2 : Int))]) (fun gh => bx bb 116 ((l).flatMap encU ++ sp) :: M) (fun gh => Rf) (fun gh => gh.2.2 - gh.2.1) (m - a, a, m) ?_ ?_ ?_
   ·
    exact r_here (by repeat (first | exact FSub.nil | refine FSub.cons rfl ?_ | refine FSub.cons2 rfl (congrArg (Value.int .i64) (by omega)) ?_)) SelMC.sel SubRC.sub
   ·
    exact ⟨⟨Nat.le_refl _, by show a ≤ m; omega⟩, Nat.le_refl _, by show m - a ≤ m - a; omega, rfl⟩
   ·
    rintro ⟨f, x, y⟩ hI2; dsimp only at hI2; dsimp only; obtain ⟨⟨hx1, hx2⟩, hx3, hx4, hbs⟩ := hI2; refine r_seq ?_; refine r_seq (r_region ?_); refine q_mv rfl rfl rfl rfl rfl ?_; refine q_mv rfl rfl rfl rfl rfl ?_; refine o_q _ rfl rfl rfl (v_lss rfl rfl rfl) ?_; refine o_nil (r_then ?_); refine r_condd rfl (fun hc85 => ?_) (fun hc85 => ?_)
    ·
     refine r_skip (r_then ?_); refine r_block ?_; refine r_seq (r_region ?_); refine q_mv rfl rfl rfl rfl rfl ?_; refine q_mv rfl rfl rfl rfl rfl ?_; refine o_q _ rfl rfl rfl (v_cast (v := i64 ((x + y : Nat) : Int)) (v_add rfl rfl rfl (by omega)) (congrArg (Value.int .i64) (by omega))) ?_; refine o_q _ rfl rfl rfl (v_conv rfl Tryz.underlying3 Tryz.underlying116 rfl (IntWalk.u64_in _ (by omega))) ?_; refine o_q _ rfl rfl rfl (v_shrK ((x + y) / 2) rfl rfl rfl (by omega) (by decide) (by rw [Nat.shiftRight_eq_div_pow])) ?_; refine o_q _ rfl rfl rfl (v_conv rfl Tryz.underlying116 Tryz.underlying3 rfl (IntWalk.i64_in _ (by omega))) ?_; refine q_as rfl rfl rfl rfl rfl ?_; refine o_nil (r_then (r_seq ?_)); refine r_region_q mixed (by kernel_rfl) ?_; (iterate 3 refine q_q _ rfl rfl rfl (v_move rfl rfl) ?_); refine q_q _ rfl rfl rfl (v_indexAddrB rfl Tryz.underlying119 inf116 rfl rfl (by omega)) ?_; refine q_q _ rfl rfl rfl (v_ld1 (v := u64 (l.getD m default)) rfl Tryz.underlying116 rfl rfl (boxU_get (by omega))) ?_; refine q_q _ rfl rfl rfl (v_move rfl rfl) ?_; refine q_q _ rfl rfl rfl (v_move rfl rfl) ?_; refine q_q _ rfl rfl rfl (v_indexAddrB rfl Tryz.underlying119 inf116 rfl rfl (by omega)) ?_; refine q_q _ rfl rfl rfl (v_ld1 (v := u64 (l.getD ((x + y) / 2) default)) rfl Tryz.underlying116 rfl rfl (boxU_get (by omega))) ?_; refine q_q _ rfl rfl rfl (OpQ.call (cmp_v (l.getD m default) (l.getD ((x + y) / 2) default) (hsm _) (hsm _)) rfl [] [] rfl rfl rfl SubRC.sub) ?_; refine q_test rfl rfl rfl (v_lss rfl rfl rfl) (fun h102 => ?_) (fun h102 => ?_)
     all_goals
      refine q_q _ rfl rfl rfl (v_not rfl rfl) ?_; refine q_nil ?_; refine r_then ?_; refine r_cond rfl (fun hc103 => ?_) (fun hc103 => ?_)
      ·
       first
       | (exfalso; revert hc103; decide)
       |
        skip
        refine r_region ?_; refine q_mv rfl rfl rfl rfl rfl ?_; refine o_q _ rfl rfl rfl (v_cast (v := i64 (((x + y) / 2 + 1 : Nat) : Int)) (v_add rfl rfl rfl (by omega)) (congrArg (Value.int .i64) (by omega))) ?_; refine q_as rfl rfl rfl rfl rfl ?_; refine o_nil ?_; refine r_in_normal ?_; refine r_then ?_; exact r_next ((f - 1, (x + y) / 2 + 1, y)) (by exact r_here (by repeat (first | exact FSub.nil | refine FSub.cons rfl ?_ | refine FSub.cons2 rfl (congrArg (Value.int .i64) (by omega)) ?_)) SelMC.sel SubRC.sub) (by obtain ⟨f9, rfl⟩ : ∃ q, f = q + 1 := ⟨f - 1, by omega⟩; exact ⟨⟨by show _ ≤ (x + y) / 2 + 1; omega, by show (x + y) / 2 + 1 ≤ y; omega⟩, hx3, by show y - ((x + y) / 2 + 1) ≤ f9; omega, by show bsK _ f9 ((x + y) / 2 + 1) y = _; rw [← hbs]; exact (bsK_t (by omega) (q2_t (by omega))).symm⟩) (by show y - ((x + y) / 2 + 1) < y - x; omega)
      ·
       first
       | (exfalso; revert hc103; decide)
       |
        skip
        refine r_region ?_; refine q_mv rfl rfl rfl rfl rfl ?_; refine q_as rfl rfl rfl rfl rfl ?_; refine o_nil ?_; refine r_in_normal ?_; refine r_then ?_; exact r_next ((f - 1, x, (x + y) / 2)) (by exact r_here (by repeat (first | exact FSub.nil | refine FSub.cons rfl ?_ | refine FSub.cons2 rfl (congrArg (Value.int .i64) (by omega)) ?_)) SelMC.sel SubRC.sub) (by obtain ⟨f9, rfl⟩ : ∃ q, f = q + 1 := ⟨f - 1, by omega⟩; exact ⟨⟨hx1, by show x ≤ (x + y) / 2; omega⟩, by show (x + y) / 2 ≤ _; omega, by show (x + y) / 2 - x ≤ f9; omega, by show bsK _ f9 x ((x + y) / 2) = _; rw [← hbs]; exact (bsK_f (by omega) (q2_f (by omega))).symm⟩) (by show (x + y) / 2 - x < y - x; omega)
    ·
     refine r_exit ?_; refine r_then_exit ?_; refine r_then_exit ?_; refine r_in_here ?_; refine r_then (r_seq ?_); refine r_seq ?_; have hx9 : bsK (q2 l m) (m - a) a m = x := by rw [← hbs]; exact bsK_n (by omega)
     refine r_region ?_; refine q_mv rfl rfl rfl rfl rfl ?_; refine q_as rfl rfl rfl rfl rfl ?_; refine o_nil (r_then ?_); refine r_block ?_; refine r_loop (ι := Nat) (fun t => t ≤ m - x) (fun t => [(0, .slice (some ⟨bb, 0, none⟩) l.length cap), (1, i64 (a : Int)), (2, i64 (m : Int)), (3, i64 (b : Int)), (4, .func (.func 110) #[] #[]), (14, i64 (x : Int)), (17, i64 ((m - t : Nat) : Int))]) (fun t => bx bb 116 ((dnC l m t).flatMap encU ++ sp) :: M) (fun t => Rf) (fun t => m - t) 0 ?_ ?_ ?_
     ·
      refine Imp.box_to bb ((dnC l m 0).flatMap encU ++ sp) rfl ?_; exact r_here (by repeat (first | exact FSub.nil | refine FSub.cons rfl ?_ | refine FSub.cons2 rfl (congrArg (Value.int .i64) (by omega)) ?_)) SelMC.sel SubRC.sub
     ·
      omega
     ·
      rintro t hI3; have hkl := dnC_len l m t; refine r_seq ?_; refine r_seq (r_region ?_); refine q_mv rfl rfl rfl rfl rfl ?_; refine q_mv rfl rfl rfl rfl rfl ?_; refine o_q _ rfl rfl rfl (v_gtr rfl rfl rfl) ?_; refine o_nil (r_then ?_); refine r_condd rfl (fun hc110 => ?_) (fun hc110 => ?_)
      ·
       refine r_skip (r_then ?_); refine r_seq (r_block ?_); refine r_parF [2, 3, 4] 14 (by kernel_rfl) (by kernel_rfl) (by kernel_rfl) (by kernel_rfl) (by kernel_rfl) mixed (by kernel_rfl) (by rfl) ?_; (iterate 4 refine p_q _ rfl rfl rfl (fun _ _ => v_move rfl rfl) ?_); refine p_q _ rfl rfl rfl (fun _ _ => v_cast (v := i64 ((m - t - 1 : Nat) : Int)) (v_sub rfl rfl rfl (by omega)) (congrArg (Value.int .i64) (by omega))) ?_; refine p_q _ rfl rfl rfl (fun _ _ => v_move rfl rfl) ?_; refine p_q _ rfl rfl rfl (fun _ _ => v_move rfl rfl) ?_; refine p_q _ rfl rfl rfl (fun _ _ => v_cast (v := i64 ((m - t - 1 : Nat) : Int)) (v_sub rfl rfl rfl (by omega)) (congrArg (Value.int .i64) (by omega))) ?_; refine p_q _ rfl rfl rfl (fun _ _ => v_indexAddrB rfl Tryz.underlying119 inf116 rfl rfl (by omega)) ?_; refine p_q _ rfl rfl rfl (fun _ _ => v_ld1 (v := u64 ((dnC l m t).getD (m - t - 1) default)) rfl Tryz.underlying116 rfl rfl (boxU_get (by omega))) ?_; refine p_q _ rfl rfl rfl (fun _ _ => v_move rfl rfl) ?_; refine p_q _ rfl rfl rfl (fun _ _ => v_move rfl rfl) ?_; refine p_q _ rfl rfl rfl (fun _ _ => v_indexAddrB rfl Tryz.underlying119 inf116 rfl rfl (by omega)) ?_; refine p_q _ rfl rfl rfl (fun _ _ => v_ld1 (v := u64 ((dnC l m t).getD (m - t) default)) rfl Tryz.underlying116 rfl rfl (boxU_get (by omega))) ?_; refine p_nilF (by simp only [List.nil_append, List.cons_append]; rfl) rfl ⟨⟨_, _, _, rfl, rfl, rfl, rfl, rfl, float_move rfl rfl⟩, ⟨_, _, _, rfl, rfl, rfl, rfl, rfl, float_move rfl rfl⟩, ⟨_, _, _, rfl, rfl, rfl, rfl, rfl, float_sub rfl rfl rfl (by omega) (show _ = ((m - t - 1 : Nat) : Int) by omega)⟩, trivial⟩ ?_; (iterate 14 refine f_q rfl ?_); refine f_nil ?_; refine o_q _ rfl rfl rfl (v_indexAddrB rfl Tryz.underlying119 inf116 rfl rfl (by omega)) ?_; refine o_st rfl inf116 rfl rfl rfl rfl rfl rfl rfl (boxU_ble (by omega)) ?_; refine Imp.box_to bb (((dnC l m t).set (m - t) ((dnC l m t).getD (m - t - 1) default)).flatMap encU ++ sp) (boxU_set (by omega)) ?_; refine o_q _ rfl rfl rfl (v_indexAddrB rfl Tryz.underlying119 inf116 rfl rfl (by omega)) ?_; refine o_st rfl inf116 rfl rfl rfl rfl rfl rfl rfl (boxU_ble (by rw [List.length_set]; omega)) ?_; refine o_nil (r_nop ?_); refine r_in_normal ?_; refine r_then ?_; refine Imp.box_to bb ((dnC l m (t + 1)).flatMap encU ++ sp) (boxU_set (by rw [List.length_set]; omega)) ?_; refine r_region ?_; refine q_mv rfl rfl rfl rfl rfl ?_; refine o_q _ rfl rfl rfl (v_cast (v := i64 ((m - (t + 1) : Nat) : Int)) (v_sub rfl rfl rfl (by omega)) (congrArg (Value.int .i64) (by omega))) ?_
       refine q_as rfl rfl rfl rfl rfl ?_; refine o_nil (r_then ?_); refine r_next (t + 1) ?_ ?_ ?_
       ·
        exact r_here (by repeat (first | exact FSub.nil | refine FSub.cons rfl ?_ | refine FSub.cons2 rfl (congrArg (Value.int .i64) (by omega)) ?_)) SelMC.sel SubRC.sub
       ·
        omega
       ·
        omega
      ·
       refine r_exit ?_; refine r_then_exit ?_; refine r_then_exit ?_; refine r_in_here ?_; refine r_then ?_; refine r_ret ?_; (with_reducible refine r_then_ret ?_)
       (refine Imp.box_to bb ((symC (f0 + 1) l a m b).flatMap encU ++ sp) (by rw [symC_2 (by omega) (by omega), hx9, show m - x = t from by omega]) ?_; exact r_rete [bx bb 116 ((symC (f0 + 1) l a m b).flatMap encU ++ sp)] [] (Rd.none rfl) ⟨rfl, rfl, rfl⟩ SelMC.sel SubRC.sub)
  ·
   refine r_skip (r_then ?_); refine r_seq ?_; have hsb := s0_bd hAM hMB; refine r_region ?_; refine q_mv rfl rfl rfl rfl rfl ?_; refine q_mv rfl rfl rfl rfl rfl ?_; refine o_q _ rfl rfl rfl (v_cast (v := i64 ((a + b : Nat) : Int)) (v_add rfl rfl rfl (by omega)) (congrArg (Value.int .i64) (by omega))) ?_; refine o_q _ rfl rfl rfl (v_conv rfl Tryz.underlying3 Tryz.underlying116 rfl (IntWalk.u64_in _ (by omega))) ?_; refine o_q _ rfl rfl rfl (v_shrK ((a + b) / 2) rfl rfl rfl (by omega) (by decide) (by rw [Nat.shiftRight_eq_div_pow])) ?_; refine o_q _ rfl rfl rfl (v_conv rfl Tryz.underlying116 Tryz.underlying3 rfl (IntWalk.i64_in _ (by omega))) ?_; refine q_as rfl rfl rfl rfl rfl ?_; refine o_nil (r_then (r_seq (r_region ?_))); refine q_mv rfl rfl rfl rfl rfl ?_; refine q_mv rfl rfl rfl rfl rfl ?_; refine o_q _ rfl rfl rfl (v_cast (v := i64 (((a + b) / 2 + m : Nat) : Int)) (v_add rfl rfl rfl (by omega)) (congrArg (Value.int .i64) (by omega))) ?_; refine q_as rfl rfl rfl rfl rfl ?_; refine o_nil (r_then (r_seq (r_region ?_))); refine q_as rfl rfl rfl rfl rfl ?_; refine q_as rfl rfl rfl rfl rfl ?_; refine o_nil (r_then ?_); refine r_mid (ι := Unit) (fun uu => True) (fun uu => [(0, .slice (some ⟨bb, 0, none⟩) l.length cap), (1, i64 (a : Int)), (2, i64 (m : Int)), (3, i64 (b : Int)), (4, .func (.func 110) #[] #[]), (18, i64 (((a + b) / 2 : Nat) : Int)), (19, i64 (((a + b) / 2 + m : Nat) : Int)), (20, i64 ((s0C a m b : Nat) : Int)), (21, i64 ((r0C a m b : Nat) : Int))]) (fun uu => bx bb 116 ((l).flatMap encU ++ sp) :: M) (fun uu => Rf) ?_ ?_
   ·
    refine r_seq (r_region ?_); refine q_mv rfl rfl rfl rfl rfl ?_; refine q_mv rfl rfl rfl rfl rfl ?_; refine o_q _ rfl rfl rfl (v_gtr rfl rfl rfl) ?_; refine o_nil (r_then ?_); refine r_condd rfl (fun hc140 => ?_) (fun hc140 => ?_)
    ·
     refine r_seq (r_region ?_); refine q_mv rfl rfl rfl rfl rfl ?_; refine q_mv rfl rfl rfl rfl rfl ?_; refine o_q _ rfl rfl rfl (v_cast (v := i64 (((a + b) / 2 + m - b : Nat) : Int)) (v_sub rfl rfl rfl (by omega)) (congrArg (Value.int .i64) (by omega))) ?_; refine q_as rfl rfl rfl rfl rfl ?_; refine o_nil (r_then ?_); refine r_region ?_; refine q_mv rfl rfl rfl rfl rfl ?_; refine q_as rfl rfl rfl rfl rfl ?_; refine o_nil (r_then ?_)
     (rw [s0C_y (by omega), r0C_y (by omega)]; exact r_here_mid () (by exact r_here (by repeat (first | exact FSub.nil | refine FSub.cons rfl ?_ | refine FSub.cons2 rfl (congrArg (Value.int .i64) (by omega)) ?_)) SelMC.sel SubRC.sub) trivial)
    ·
     refine r_seq (r_region ?_); refine q_mv rfl rfl rfl rfl rfl ?_; refine q_as rfl rfl rfl rfl rfl ?_; refine o_nil (r_then ?_); refine r_region ?_; refine q_mv rfl rfl rfl rfl rfl ?_; refine q_as rfl rfl rfl rfl rfl ?_; refine o_nil (r_then ?_)
     (rw [s0C_n (by omega), r0C_n (by omega)]; exact r_here_mid () (by exact r_here (by repeat (first | exact FSub.nil | refine FSub.cons rfl ?_ | refine FSub.cons2 rfl (congrArg (Value.int .i64) (by omega)) ?_)) SelMC.sel SubRC.sub) trivial)
   ·
    intro uu hm; refine r_seq (r_region ?_); refine q_mv rfl rfl rfl rfl rfl ?_; refine o_q _ rfl rfl rfl (v_cast (v := i64 (((a + b) / 2 + m - 1 : Nat) : Int)) (v_sub rfl rfl rfl (by omega)) (congrArg (Value.int .i64) (by omega))) ?_; refine q_as rfl rfl rfl rfl rfl ?_; refine o_nil (r_then ?_); refine r_seq (r_block ?_); refine r_loop (ι := Nat × Nat × Nat) (fun gh => (s0C a m b ≤ gh.2.1 ∧ gh.2.1 ≤ gh.2.2) ∧ gh.2.2 ≤ r0C a m b ∧ gh.2.2 - gh.2.1 ≤ gh.1 ∧ bsK (q3 l ((a + b) / 2 + m - 1)) gh.1 gh.2.1 gh.2.2 = bsK (q3 l ((a + b) / 2 + m - 1)) (b - a) (s0C a m b) (r0C a m b)) (fun gh => [(0, .slice (some ⟨bb, 0, none⟩) l.length cap), (1, i64 (a : Int)), (2, i64 (m : Int)), (3, i64 (b : Int)), (4, .func (.func 110) #[] #[]), (18, i64 (((a + b) / 2 : Nat) : Int)), (19, i64 (((a + b) / 2 + m : Nat) : Int)), (22, i64 (((a + b) / 2 + m - 1 : Nat) : Int)), (20, i64 (gh.2.1 : Int)), (21, i64 (gh.2.2 : Int))]) (fun gh => bx bb 116 ((l).flatMap encU ++ sp) :: M) (fun gh => Rf) (fun gh => gh.2.2 - gh.2.1) (b - a, s0C a m b, r0C a m b) ?_ ?_ ?_
    ·
     exact r_here (by repeat (first | exact FSub.nil | refine FSub.cons rfl ?_ | refine FSub.cons2 rfl (congrArg (Value.int .i64) (by omega)) ?_)) SelMC.sel SubRC.sub
    ·
     exact ⟨⟨Nat.le_refl _, by show s0C a m b ≤ r0C a m b; omega⟩, Nat.le_refl _, by show r0C a m b - s0C a m b ≤ b - a; omega, rfl⟩
    ·
     rintro ⟨f, x, y⟩ hI4; dsimp only at hI4; dsimp only; obtain ⟨⟨hx1, hx2⟩, hx3, hx4, hbs⟩ := hI4; refine r_seq ?_; refine r_seq (r_region ?_); refine q_mv rfl rfl rfl rfl rfl ?_; refine q_mv rfl rfl rfl rfl rfl ?_; refine o_q _ rfl rfl rfl (v_lss rfl rfl rfl) ?_; refine o_nil (r_then ?_); refine r_condd rfl (fun hc151 => ?_) (fun hc151 => ?_)
     ·
      refine r_skip (r_then ?_); refine r_block ?_; refine r_seq (r_region ?_); refine q_mv rfl rfl rfl rfl rfl ?_; refine q_mv rfl rfl rfl rfl rfl ?_; refine o_q _ rfl rfl rfl (v_cast (v := i64 ((x + y : Nat) : Int)) (v_add rfl rfl rfl (by omega)) (congrArg (Value.int .i64) (by omega))) ?_; refine o_q _ rfl rfl rfl (v_conv rfl Tryz.underlying3 Tryz.underlying116 rfl (IntWalk.u64_in _ (by omega))) ?_; refine o_q _ rfl rfl rfl (v_shrK ((x + y) / 2) rfl rfl rfl (by omega) (by decide) (by rw [Nat.shiftRight_eq_div_pow])) ?_; refine o_q _ rfl rfl rfl (v_conv rfl Tryz.underlying116 Tryz.underlying3 rfl (IntWalk.i64_in _ (by omega))) ?_; refine q_as rfl rfl rfl rfl rfl ?_; refine o_nil (r_then (r_seq ?_)); refine r_region_q mixed (by kernel_rfl) ?_; (iterate 4 refine q_q _ rfl rfl rfl (v_move rfl rfl) ?_); refine q_q _ rfl rfl rfl (v_cast (v := i64 (((a + b) / 2 + m - 1 - ((x + y) / 2) : Nat) : Int)) (v_sub rfl rfl rfl (by omega)) (congrArg (Value.int .i64) (by omega))) ?_; refine q_q _ rfl rfl rfl (v_indexAddrB rfl Tryz.underlying119 inf116 rfl rfl (by omega)) ?_; refine q_q _ rfl rfl rfl (v_ld1 (v := u64 (l.getD ((a + b) / 2 + m - 1 - ((x + y) / 2)) default)) rfl Tryz.underlying116 rfl rfl (boxU_get (by omega))) ?_; refine q_q _ rfl rfl rfl (v_move rfl rfl) ?_; refine q_q _ rfl rfl rfl (v_move rfl rfl) ?_; refine q_q _ rfl rfl rfl (v_indexAddrB rfl Tryz.underlying119 inf116 rfl rfl (by omega)) ?_; refine q_q _ rfl rfl rfl (v_ld1 (v := u64 (l.getD ((x + y) / 2) default)) rfl Tryz.underlying116 rfl rfl (boxU_get (by omega))) ?_; refine q_q _ rfl rfl rfl (OpQ.call (cmp_v (l.getD ((a + b) / 2 + m - 1 - ((x + y) / 2)) default) (l.getD ((x + y) / 2) default) (hsm _) (hsm _)) rfl [] [] rfl rfl rfl SubRC.sub) ?_; refine q_test rfl rfl rfl (v_lss rfl rfl rfl) (fun h170 => ?_) (fun h170 => ?_)
      all_goals
       refine q_q _ rfl rfl rfl (v_not rfl rfl) ?_; refine q_nil ?_; refine r_then ?_; refine r_cond rfl (fun hc171 => ?_) (fun hc171 => ?_)
       ·
        first
        | (exfalso; revert hc171; decide)
        |
         skip
         refine r_region ?_; refine q_mv rfl rfl rfl rfl rfl ?_; refine o_q _ rfl rfl rfl (v_cast (v := i64 (((x + y) / 2 + 1 : Nat) : Int)) (v_add rfl rfl rfl (by omega)) (congrArg (Value.int .i64) (by omega))) ?_; refine q_as rfl rfl rfl rfl rfl ?_; refine o_nil ?_; refine r_in_normal ?_; refine r_then ?_; exact r_next ((f - 1, (x + y) / 2 + 1, y)) (by exact r_here (by repeat (first | exact FSub.nil | refine FSub.cons rfl ?_ | refine FSub.cons2 rfl (congrArg (Value.int .i64) (by omega)) ?_)) SelMC.sel SubRC.sub) (by obtain ⟨f9, rfl⟩ : ∃ q, f = q + 1 := ⟨f - 1, by omega⟩; exact ⟨⟨by show _ ≤ (x + y) / 2 + 1; omega, by show (x + y) / 2 + 1 ≤ y; omega⟩, hx3, by show y - ((x + y) / 2 + 1) ≤ f9; omega, by show bsK _ f9 ((x + y) / 2 + 1) y = _; rw [← hbs]; exact (bsK_t (by omega) (q3_t (by omega))).symm⟩) (by show y - ((x + y) / 2 + 1) < y - x; omega)
       ·
        first
        | (exfalso; revert hc171; decide)
        |
         skip
         refine r_region ?_; refine q_mv rfl rfl rfl rfl rfl ?_; refine q_as rfl rfl rfl rfl rfl ?_; refine o_nil ?_; refine r_in_normal ?_; refine r_then ?_; exact r_next ((f - 1, x, (x + y) / 2)) (by exact r_here (by repeat (first | exact FSub.nil | refine FSub.cons rfl ?_ | refine FSub.cons2 rfl (congrArg (Value.int .i64) (by omega)) ?_)) SelMC.sel SubRC.sub) (by obtain ⟨f9, rfl⟩ : ∃ q, f = q + 1 := ⟨f - 1, by omega⟩; exact ⟨⟨hx1, by show x ≤ (x + y) / 2; omega⟩, by show (x + y) / 2 ≤ _; omega, by show (x + y) / 2 - x ≤ f9; omega, by show bsK _ f9 x ((x + y) / 2) = _; rw [← hbs]; exact (bsK_f (by omega) (q3_f (by omega))).symm⟩) (by show (x + y) / 2 - x < y - x; omega)
     ·
      refine r_exit ?_; refine r_then_exit ?_; refine r_then_exit ?_; refine r_in_here ?_; refine r_then (r_seq ?_); have hs : stC l a m b = x := by rw [stC_eq, ← hbs]; exact bsK_n (by omega)
      generalize x = s at *
      refine r_region ?_; refine q_mv rfl rfl rfl rfl rfl ?_; refine q_mv rfl rfl rfl rfl rfl ?_; refine o_q _ rfl rfl rfl (v_cast (v := i64 (((a + b) / 2 + m - s : Nat) : Int)) (v_sub rfl rfl rfl (by omega)) (congrArg (Value.int .i64) (by omega))) ?_; refine q_as rfl rfl rfl rfl rfl ?_; refine o_nil (r_then ?_); refine r_mid (ι := Unit) (fun uu => True) (fun uu => [(0, .slice (some ⟨bb, 0, none⟩) l.length cap), (1, i64 (a : Int)), (2, i64 (m : Int)), (3, i64 (b : Int)), (4, .func (.func 110) #[] #[]), (18, i64 (((a + b) / 2 : Nat) : Int)), (20, i64 (s : Int)), (24, i64 (((a + b) / 2 + m - s : Nat) : Int))]) (fun uu => bx bb 116 ((roC l a m b).flatMap encU ++ sp) :: M) (fun uu => Rf) ?_ ?_
      ·
       refine r_seq (r_region ?_); refine q_mv rfl rfl rfl rfl rfl ?_; refine q_mv rfl rfl rfl rfl rfl ?_; refine o_test rfl rfl rfl (v_lss rfl rfl rfl) (fun h180 => ?_) (fun h180 => ?_)
       all_goals
        refine q_mv rfl rfl rfl rfl rfl ?_
        first | refine o_gn rfl rfl rfl rfl ?_ | refine o_g _ rfl rfl rfl rfl (v_move rfl rfl) ?_
        first | refine o_gn rfl rfl rfl rfl ?_ | refine o_g _ rfl rfl rfl rfl (v_move rfl rfl) ?_
        first | refine o_gn rfl rfl rfl rfl ?_ | refine o_gtest rfl rfl rfl rfl (v_lss rfl rfl rfl) (fun h184 => ?_) (fun h184 => ?_)
        all_goals
         first | refine o_q _ rfl rfl rfl (v_pick_t rfl rfl rfl) ?_ | refine o_q _ rfl rfl rfl (v_pick_f rfl rfl rfl) ?_
         refine o_nil (r_then ?_); refine r_cond rfl (fun hc185 => ?_) (fun hc185 => ?_)
         ·
          first
          | (exfalso; revert hc185; decide)
          |
           skip
           refine r_region ?_; (iterate 5 refine q_mv rfl rfl rfl rfl rfl ?_); refine o_fnc (rot_n (roC_l0 l) (by omega) hsm bb cap sp s m ((a + b) / 2 + m - s) (by omega) (by omega) (by omega)) rfl [] [] rfl rfl rfl rfl rfl rfl SubRC.sub ?_; refine o_nil (r_then ?_)
           (refine Imp.box_to bb ((roC l a m b).flatMap encU ++ sp) (by rw [roC_y (by omega), hs]) ?_; exact r_here_mid () (by exact r_here (by repeat (first | exact FSub.nil | refine FSub.cons rfl ?_ | refine FSub.cons2 rfl (congrArg (Value.int .i64) (by omega)) ?_)) SelMC.sel SubRC.sub) trivial)
         ·
          first
          | (exfalso; revert hc185; decide)
          |
           skip
           refine r_skip (r_then ?_)
           (refine Imp.box_to bb ((roC l a m b).flatMap encU ++ sp) (by rw [roC_n (by omega)]) ?_; exact r_here_mid () (by exact r_here (by repeat (first | exact FSub.nil | refine FSub.cons rfl ?_ | refine FSub.cons2 rfl (congrArg (Value.int .i64) (by omega)) ?_)) SelMC.sel SubRC.sub) trivial)
      ·
       intro uu hm; refine r_mid (ι := Unit) (fun uu => True) (fun uu => [(0, .slice (some ⟨bb, 0, none⟩) l.length cap), (1, i64 (a : Int)), (2, i64 (m : Int)), (3, i64 (b : Int)), (4, .func (.func 110) #[] #[]), (18, i64 (((a + b) / 2 : Nat) : Int)), (20, i64 (s : Int)), (24, i64 (((a + b) / 2 + m - s : Nat) : Int))]) (fun uu => bx bb 116 ((l2C f0 l a m b).flatMap encU ++ sp) :: M) (fun uu => Rf) ?_ ?_
       ·
        refine r_seq (r_region ?_); refine q_mv rfl rfl rfl rfl rfl ?_; refine q_mv rfl rfl rfl rfl rfl ?_; refine o_test rfl rfl rfl (v_lss rfl rfl rfl) (fun h194 => ?_) (fun h194 => ?_)
        all_goals
         refine q_mv rfl rfl rfl rfl rfl ?_
         first | refine o_gn rfl rfl rfl rfl ?_ | refine o_g _ rfl rfl rfl rfl (v_move rfl rfl) ?_
         first | refine o_gn rfl rfl rfl rfl ?_ | refine o_g _ rfl rfl rfl rfl (v_move rfl rfl) ?_
         first | refine o_gn rfl rfl rfl rfl ?_ | refine o_gtest rfl rfl rfl rfl (v_lss rfl rfl rfl) (fun h198 => ?_) (fun h198 => ?_)
         all_goals
          first | refine o_q _ rfl rfl rfl (v_pick_t rfl rfl rfl) ?_ | refine o_q _ rfl rfl rfl (v_pick_f rfl rfl rfl) ?_
          refine o_nil (r_then ?_); refine r_cond rfl (fun hc199 => ?_) (fun hc199 => ?_)
          ·
           first
           | (exfalso; revert hc199; decide)
           |
            skip
            refine r_region ?_; (iterate 5 refine q_mv rfl rfl rfl rfl rfl ?_); refine o_fnc (ih (roC l a m b) l.length (roC_len ..) (by rw [roC_len]; exact hl) hsm.roC a s ((a + b) / 2) (by omega) (by omega) (by omega) (by omega)) rfl [] [] rfl rfl rfl rfl rfl rfl SubRC.sub ?_; refine o_nil (r_then ?_)
            (refine Imp.box_to bb ((l2C f0 l a m b).flatMap encU ++ sp) (by rw [l2C_y (by omega), hs]) ?_; exact r_here_mid () (by exact r_here (by repeat (first | exact FSub.nil | refine FSub.cons rfl ?_ | refine FSub.cons2 rfl (congrArg (Value.int .i64) (by omega)) ?_)) SelMC.sel SubRC.sub) trivial)
          ·
           first
           | (exfalso; revert hc199; decide)
           |
            skip
            refine r_skip (r_then ?_)
            (refine Imp.box_to bb ((l2C f0 l a m b).flatMap encU ++ sp) (by rw [l2C_n (by omega)]) ?_; exact r_here_mid () (by exact r_here (by repeat (first | exact FSub.nil | refine FSub.cons rfl ?_ | refine FSub.cons2 rfl (congrArg (Value.int .i64) (by omega)) ?_)) SelMC.sel SubRC.sub) trivial)
       ·
        intro uu hm; refine r_seq (r_region ?_); refine q_mv rfl rfl rfl rfl rfl ?_; refine q_mv rfl rfl rfl rfl rfl ?_; refine o_test rfl rfl rfl (v_lss rfl rfl rfl) (fun h208 => ?_) (fun h208 => ?_)
        all_goals
         refine q_mv rfl rfl rfl rfl rfl ?_
         first | refine o_gn rfl rfl rfl rfl ?_ | refine o_g _ rfl rfl rfl rfl (v_move rfl rfl) ?_
         first | refine o_gn rfl rfl rfl rfl ?_ | refine o_g _ rfl rfl rfl rfl (v_move rfl rfl) ?_
         first | refine o_gn rfl rfl rfl rfl ?_ | refine o_gtest rfl rfl rfl rfl (v_lss rfl rfl rfl) (fun h212 => ?_) (fun h212 => ?_)
         all_goals
          first | refine o_q _ rfl rfl rfl (v_pick_t rfl rfl rfl) ?_ | refine o_q _ rfl rfl rfl (v_pick_f rfl rfl rfl) ?_
          refine o_nil (r_then ?_); refine r_cond rfl (fun hc213 => ?_) (fun hc213 => ?_)
          ·
           first
           | (exfalso; revert hc213; decide)
           |
            skip
            refine r_region ?_; (iterate 5 refine q_mv rfl rfl rfl rfl rfl ?_); refine o_fnc (ih (l2C f0 l a m b) l.length (l2C_len ..) (by rw [l2C_len]; exact hl) (l2C_sm hsm) ((a + b) / 2) ((a + b) / 2 + m - s) b (by omega) (by omega) (by omega) (by omega)) rfl [] [] rfl rfl rfl rfl rfl rfl SubRC.sub ?_; refine o_nil ?_
            (refine Imp.box_to bb ((symC (f0 + 1) l a m b).flatMap encU ++ sp) (by rw [symC_3 (by omega) (by omega), if_pos (by omega), hs]) ?_; exact r_ende [bx bb 116 ((symC (f0 + 1) l a m b).flatMap encU ++ sp)] [] (Rd.none rfl) ⟨rfl, rfl, rfl⟩ SelMC.sel SubRC.sub)
          ·
           first
           | (exfalso; revert hc213; decide)
           |
            skip
            refine r_skip ?_
            (refine Imp.box_to bb ((symC (f0 + 1) l a m b).flatMap encU ++ sp) (by rw [symC_3 (by omega) (by omega), if_neg (by omega)]) ?_; exact r_ende [bx bb 116 ((symC (f0 + 1) l a m b).flatMap encU ++ sp)] [] (Rd.none rfl) ⟨rfl, rfl, rfl⟩ SelMC.sel SubRC.sub)
theorem sym_n (bb cap : Nat) (sp : List Value) : ∀ (f : Nat) (c : List Nat) (n : Nat), c.length = n → c.length ≤ 1000 → Sm c → ∀ (a m b : Nat), a < m → m < b → b ≤ n → b - a ≤ 2 ^ f → FnC Tryz.prog 174 [.slice (some ⟨bb, 0, none⟩) n cap, i64 (a : Int), i64 (m : Int), i64 (b : Int), .func (.func 110) #[] #[]] (bx bb 116 (c.flatMap encU ++ sp)) [] (.tuple #[]) (bx bb 116 ((symC f c a m b).flatMap encU ++ sp))
  | 0, _, _, _, _, _, a, m, b, h1, h2, _, h4 => absurd h4 (by have : (2 : Nat) ^ 0 = 1 := rfl; omega)
  | f + 1, c, n, hn, hl, hs, a, m, b, h1, h2, h3, h4 => by
    subst hn
    exact sym_s c hl hs bb cap sp a m b h1 h2 h3 f (sym_n bb cap sp f) h4
end Go.Proofs.YtpndeonmmcaikaaGreat.DrW

namespace Go.Proofs.YtpndeonmmcaikaaGreat.DrW
open Go.G Foot4 Drain7
set_option maxRecDepth 1000000
attribute [local irreducible] G.ParO G.Fin
theorem blkC_y {f a : Nat} {l : List Nat} (h : a + 20 ≤ l.length) : blkC (f + 1) l a = blkC f (insC a l 19) (a + 20) := if_pos h
theorem blkC_n {f a : Nat} {l : List Nat} (h : ¬ a + 20 ≤ l.length) : blkC f l a = (l, a) := by
  cases f with
  | zero => rfl
  | succ f => exact if_neg h
theorem pairC_y {bs f a : Nat} {l : List Nat} (h : a + 2 * bs ≤ l.length) : pairC bs (f + 1) l a = pairC bs f (symC 8 l a (a + bs) (a + 2 * bs)) (a + 2 * bs) := if_pos h
theorem pairC_n {bs f a : Nat} {l : List Nat} (h : ¬ a + 2 * bs ≤ l.length) : pairC bs f l a = (l, a) := by
  cases f with
  | zero => rfl
  | succ f => exact if_neg h
theorem mrgC_y {bs f : Nat} {l : List Nat} (h : bs < l.length) : mrgC (f + 1) l bs = mrgC f (endC bs (pairC bs l.length l 0)) (2 * bs) := if_pos h
theorem mrgC_n {bs f : Nat} {l : List Nat} (h : ¬ bs < l.length) : mrgC f l bs = l := by
  cases f with
  | zero => rfl
  | succ f => exact if_neg h
theorem endC_y {bs a : Nat} {l : List Nat} (h : a + bs < l.length) : endC bs (l, a) = symC 8 l a (a + bs) l.length := if_pos h
theorem endC_n {bs a : Nat} {l : List Nat} (h : ¬ a + bs < l.length) : endC bs (l, a) = l := if_neg h
theorem endC_len {bs a : Nat} {l : List Nat} : (endC bs (l, a)).length = l.length := by
  unfold endC
  split
  · exact symC_len ..
  · rfl
theorem pow_f {n bs f : Nat} (hf : n ≤ bs * 2 ^ f) (h : bs < n) : 1 ≤ f := by
  rcases Nat.eq_zero_or_pos f with h0 | h0
  · rw [h0, Nat.pow_zero, Nat.mul_one] at hf; omega
  · exact h0
theorem endC_sm {bs a : Nat} {l : List Nat} (h : Sm l) : Sm (endC bs (l, a)) := by
  unfold endC
  split
  · exact Sm.symC _ _ _ _ h
  · exact h
set_option maxHeartbeats 4000000 in
theorem stable_s (l : List Nat) (hl : l.length ≤ 128) (hsm : Sm l) (bb cap : Nat) (sp : List Value) : FnC Tryz.prog 152 [.slice (some ⟨bb, 0, none⟩) l.length cap, i64 (l.length : Int), .func (.func 110) #[] #[]] (bx bb 116 ((l).flatMap encU ++ sp)) [] (.tuple #[]) (bx bb 116 ((stableC l).flatMap encU ++ sp)) := by
 refine FnC.intro Tryz.call152 Tryz.func152 rfl Tryz.ntmps152 rfl ?_; intro W M Rf; refine r_seq (r_region ?_); refine q_as rfl rfl rfl rfl rfl ?_; refine o_nil (r_then (r_seq (r_region ?_))); refine q_mv rfl rfl rfl rfl rfl ?_; refine q_as rfl rfl rfl rfl rfl ?_; refine q_as rfl rfl rfl rfl rfl ?_; refine o_nil (r_then ?_); refine r_seq (r_block ?_); refine r_loop (ι := Nat × List Nat × Nat) (fun gh => gh.2.1.length = l.length ∧ Sm gh.2.1 ∧ gh.2.2 ≤ l.length ∧ l.length - gh.2.2 ≤ gh.1 ∧ blkC gh.1 gh.2.1 gh.2.2 = blkC l.length l 0) (fun gh => [(0, .slice (some ⟨bb, 0, none⟩) l.length cap), (1, i64 (l.length : Int)), (2, .func (.func 110) #[] #[]), (6, i64 20), (7, i64 (gh.2.2 : Int)), (8, i64 ((gh.2.2 + 20 : Nat) : Int))]) (fun gh => bx bb 116 ((gh.2.1).flatMap encU ++ sp) :: M) (fun gh => Rf) (fun gh => l.length - gh.2.2) (l.length, l, 0) ?_ ?_ ?_
 ·
  exact r_here (by repeat (first | exact FSub.nil | refine FSub.cons rfl ?_ | refine FSub.cons2 rfl (congrArg (Value.int .i64) (by omega)) ?_)) SelMC.sel SubRC.sub
 ·
  exact ⟨rfl, hsm, Nat.zero_le _, by show l.length - 0 ≤ l.length; omega, rfl⟩
 ·
  rintro ⟨f, c, x⟩ hI0; dsimp only at hI0; dsimp only; obtain ⟨hc1, hc2, hx, hf, hblk⟩ := hI0; refine r_seq ?_; refine r_seq (r_region ?_); refine q_mv rfl rfl rfl rfl rfl ?_; refine q_mv rfl rfl rfl rfl rfl ?_; refine o_q _ rfl rfl rfl (v_leq rfl rfl rfl) ?_; refine o_nil (r_then ?_); refine r_condd rfl (fun hc13 => ?_) (fun hc13 => ?_)
  ·
   refine r_skip (r_then ?_); refine r_block ?_; refine r_seq (r_region ?_); (iterate 4 refine q_mv rfl rfl rfl rfl rfl ?_); refine o_fnc (ins_n hc1 (by omega) hc2 bb cap sp x (x + 20) (by omega) (by omega)) rfl [] [] rfl rfl rfl rfl rfl rfl SubRC.sub ?_; refine o_nil (r_then (r_seq ?_)); refine Imp.box_to bb ((insC x c 19).flatMap encU ++ sp) (by rw [show x + 20 - x - 1 = 19 from by omega]) ?_; refine r_region ?_; refine q_mv rfl rfl rfl rfl rfl ?_; refine q_as rfl rfl rfl rfl rfl ?_; refine o_nil (r_then ?_); refine r_region ?_; refine q_mv rfl rfl rfl rfl rfl ?_; refine q_mv rfl rfl rfl rfl rfl ?_; refine o_q _ rfl rfl rfl (v_cast (v := i64 ((x + 20 + 20 : Nat) : Int)) (v_add rfl rfl rfl (by omega)) (congrArg (Value.int .i64) (by omega))) ?_; refine q_as rfl rfl rfl rfl rfl ?_; refine o_nil ?_; refine r_in_normal ?_; refine r_then ?_; exact r_next ((f - 1, insC x c 19, x + 20)) (by exact r_here (by repeat (first | exact FSub.nil | refine FSub.cons rfl ?_ | refine FSub.cons2 rfl (congrArg (Value.int .i64) (by omega)) ?_)) SelMC.sel SubRC.sub) (by obtain ⟨f9, rfl⟩ : ∃ q, f = q + 1 := ⟨f - 1, by omega⟩; exact ⟨(insC_len ..).trans hc1, hc2.ins _, by show x + 20 ≤ _; omega, by show l.length - (x + 20) ≤ f9; omega, by show blkC f9 _ _ = _; rw [← hblk]; exact (blkC_y (by omega)).symm⟩) (by show l.length - (x + 20) < l.length - x; omega)
  ·
   refine r_exit ?_; refine r_then_exit ?_; refine r_then_exit ?_; refine r_in_here ?_; refine r_then (r_seq ?_); have hbk : blkC l.length l 0 = (c, x) := by rw [← hblk]; exact blkC_n (by omega)
   refine r_region ?_; (iterate 4 refine q_mv rfl rfl rfl rfl rfl ?_); refine o_fnc (ins_n hc1 (by omega) hc2 bb cap sp x l.length (by omega) (Nat.le_refl _)) rfl [] [] rfl rfl rfl rfl rfl rfl SubRC.sub ?_; refine o_nil (r_then ?_); refine r_block ?_; refine r_loop (ι := Nat × List Nat × Nat) (fun gh => gh.2.1.length = l.length ∧ Sm gh.2.1 ∧ 20 ≤ gh.2.2 ∧ l.length ≤ gh.2.2 * 2 ^ gh.1 ∧ gh.2.2 ≤ 256 ∧ mrgC gh.1 gh.2.1 gh.2.2 = stableC l) (fun gh => [(0, .slice (some ⟨bb, 0, none⟩) l.length cap), (1, i64 (l.length : Int)), (2, .func (.func 110) #[] #[]), (6, i64 (gh.2.2 : Int))]) (fun gh => bx bb 116 ((gh.2.1).flatMap encU ++ sp) :: M) (fun gh => Rf) (fun gh => l.length - gh.2.2) (4, (insC x c (l.length - x - 1)), 20) ?_ ?_ ?_
   ·
    exact r_here (by repeat (first | exact FSub.nil | refine FSub.cons rfl ?_ | refine FSub.cons2 rfl (congrArg (Value.int .i64) (by omega)) ?_)) SelMC.sel SubRC.sub
   ·
    exact ⟨(insC_len ..).trans hc1, hc2.ins _, Nat.le_refl _, by show _ ≤ 20 * 2 ^ 4; omega, by show 20 ≤ 256; omega, by unfold stableC; rw [hbk]⟩
   ·
    rintro ⟨f, c, bs⟩ hI1; dsimp only at hI1; dsimp only; obtain ⟨hc1, hc2, hb0, hf, hb9, hmrg⟩ := hI1; refine r_seq ?_; refine r_seq (r_region ?_); refine q_mv rfl rfl rfl rfl rfl ?_; refine q_mv rfl rfl rfl rfl rfl ?_; refine o_q _ rfl rfl rfl (v_lss rfl rfl rfl) ?_; refine o_nil (r_then ?_); refine r_condd rfl (fun hc30 => ?_) (fun hc30 => ?_)
    ·
     refine r_skip (r_then ?_); refine r_block ?_; refine r_seq ?_; have hf0 : 1 ≤ f := pow_f hf (by omega); refine r_region ?_; refine q_mv rfl rfl rfl rfl rfl ?_; refine o_q _ rfl rfl rfl (v_cast (v := i64 ((2 * bs : Nat) : Int)) (v_mul rfl rfl rfl (by omega)) (congrArg (Value.int .i64) (by omega))) ?_; refine q_as rfl rfl rfl rfl rfl ?_; refine q_as rfl rfl rfl rfl rfl ?_; refine o_nil (r_then ?_); refine r_seq (r_block ?_); refine r_loop (ι := Nat × List Nat × Nat) (fun gh => gh.2.1.length = l.length ∧ Sm gh.2.1 ∧ gh.2.2 ≤ l.length ∧ l.length - gh.2.2 ≤ gh.1 ∧ pairC bs gh.1 gh.2.1 gh.2.2 = pairC bs c.length c 0) (fun gh => [(0, .slice (some ⟨bb, 0, none⟩) l.length cap), (1, i64 (l.length : Int)), (2, .func (.func 110) #[] #[]), (6, i64 (bs : Int)), (7, i64 (gh.2.2 : Int)), (8, i64 ((gh.2.2 + 2 * bs : Nat) : Int))]) (fun gh => bx bb 116 ((gh.2.1).flatMap encU ++ sp) :: M) (fun gh => Rf) (fun gh => l.length - gh.2.2) (c.length, c, 0) ?_ ?_ ?_
     ·
      exact r_here (by repeat (first | exact FSub.nil | refine FSub.cons rfl ?_ | refine FSub.cons2 rfl (congrArg (Value.int .i64) (by show _ = ((0 + 2 * bs : Nat) : Int); omega)) ?_)) SelMC.sel SubRC.sub
     ·
      exact ⟨hc1, hc2, Nat.zero_le _, by show l.length - 0 ≤ c.length; omega, rfl⟩
     ·
      rintro ⟨g, c2, x⟩ hI2; dsimp only at hI2; dsimp only; obtain ⟨hd1, hd2, hx2, hg2, hpair⟩ := hI2; refine r_seq ?_; refine r_seq (r_region ?_); refine q_mv rfl rfl rfl rfl rfl ?_; refine q_mv rfl rfl rfl rfl rfl ?_; refine o_q _ rfl rfl rfl (v_leq rfl rfl rfl) ?_; refine o_nil (r_then ?_); refine r_condd rfl (fun hc35 => ?_) (fun hc35 => ?_)
      ·
       refine r_skip (r_then ?_); refine r_block ?_; refine r_seq (r_region ?_); (iterate 4 refine q_mv rfl rfl rfl rfl rfl ?_); refine o_q _ rfl rfl rfl (v_cast (v := i64 ((x + bs : Nat) : Int)) (v_add rfl rfl rfl (by omega)) (congrArg (Value.int .i64) (by omega))) ?_; refine q_mv rfl rfl rfl rfl rfl ?_; refine q_mv rfl rfl rfl rfl rfl ?_; refine o_fnc (sym_n bb cap sp 8 c2 l.length hd1 (by omega) hd2 x (x + bs) (x + 2 * bs) (by omega) (by omega) (by omega) (by omega)) rfl [] [] rfl rfl rfl rfl rfl rfl SubRC.sub ?_; refine o_nil (r_then (r_seq (r_region ?_))); refine q_mv rfl rfl rfl rfl rfl ?_; refine q_as rfl rfl rfl rfl rfl ?_; refine o_nil (r_then ?_); refine r_region ?_; refine q_mv rfl rfl rfl rfl rfl ?_; refine q_mv rfl rfl rfl rfl rfl ?_; refine o_q _ rfl rfl rfl (v_cast (v := i64 ((2 * bs : Nat) : Int)) (v_mul rfl rfl rfl (by omega)) (congrArg (Value.int .i64) (by omega))) ?_; refine o_q _ rfl rfl rfl (v_cast (v := i64 ((x + 2 * bs + 2 * bs : Nat) : Int)) (v_add rfl rfl rfl (by omega)) (congrArg (Value.int .i64) (by omega))) ?_; refine q_as rfl rfl rfl rfl rfl ?_; refine o_nil ?_; refine r_in_normal ?_; refine r_then ?_; exact r_next ((g - 1, symC 8 c2 x (x + bs) (x + 2 * bs), x + 2 * bs)) (by exact r_here (by repeat (first | exact FSub.nil | refine FSub.cons rfl ?_ | refine FSub.cons2 rfl (congrArg (Value.int .i64) (by omega)) ?_)) SelMC.sel SubRC.sub) (by obtain ⟨f9, rfl⟩ : ∃ q, g = q + 1 := ⟨g - 1, by omega⟩; exact ⟨(symC_len ..).trans hd1, Sm.symC _ _ _ _ hd2, by show x + 2 * bs ≤ _; omega, by show l.length - (x + 2 * bs) ≤ f9; omega, by show pairC bs f9 _ _ = _; rw [← hpair]; exact (pairC_y (by omega)).symm⟩) (by show l.length - (x + 2 * bs) < l.length - x; omega)
      ·
       refine r_exit ?_; refine r_then_exit ?_; refine r_then_exit ?_; refine r_in_here ?_; refine r_then (r_seq ?_); refine r_seq ?_; have hpr : pairC bs c.length c 0 = (c2, x) := by rw [← hpair]; exact pairC_n (by omega)
       refine r_region ?_; refine q_mv rfl rfl rfl rfl rfl ?_; refine q_mv rfl rfl rfl rfl rfl ?_; refine o_q _ rfl rfl rfl (v_cast (v := i64 ((x + bs : Nat) : Int)) (v_add rfl rfl rfl (by omega)) (congrArg (Value.int .i64) (by omega))) ?_; refine q_as rfl rfl rfl rfl rfl ?_; refine o_nil (r_then (r_seq (r_region ?_))); refine q_mv rfl rfl rfl rfl rfl ?_; refine q_mv rfl rfl rfl rfl rfl ?_; refine o_q _ rfl rfl rfl (v_lss rfl rfl rfl) ?_; refine o_nil (r_then ?_); refine r_condd rfl (fun hc54 => ?_) (fun hc54 => ?_)
       ·
        refine r_region ?_; (iterate 5 refine q_mv rfl rfl rfl rfl rfl ?_); refine o_fnc (sym_n bb cap sp 8 c2 l.length hd1 (by omega) hd2 x (x + bs) l.length (by omega) (by omega) (Nat.le_refl _) (by omega)) rfl [] [] rfl rfl rfl rfl rfl rfl SubRC.sub ?_; refine o_nil (r_then ?_); refine Imp.box_to bb ((endC bs (c2, x)).flatMap encU ++ sp) (by first | rw [endC_y (by omega), hd1] | rw [endC_n (by omega)]) ?_; refine r_region ?_; refine q_mv rfl rfl rfl rfl rfl ?_; refine o_q _ rfl rfl rfl (v_cast (v := i64 ((2 * bs : Nat) : Int)) (v_mul rfl rfl rfl (by omega)) (congrArg (Value.int .i64) (by omega))) ?_; refine q_as rfl rfl rfl rfl rfl ?_; refine o_nil ?_; refine r_in_normal ?_; refine r_then ?_; exact r_next ((f - 1, endC bs (c2, x), 2 * bs)) (by exact r_here (by repeat (first | exact FSub.nil | refine FSub.cons rfl ?_ | refine FSub.cons2 rfl (congrArg (Value.int .i64) (by omega)) ?_)) SelMC.sel SubRC.sub) (by obtain ⟨f9, rfl⟩ : ∃ q, f = q + 1 := ⟨f - 1, by omega⟩; exact ⟨endC_len.trans hd1, endC_sm hd2, by show 20 ≤ 2 * bs; omega, by show l.length ≤ 2 * bs * 2 ^ f9; rw [Nat.pow_succ] at hf; rw [Nat.mul_comm 2 bs, Nat.mul_assoc, Nat.mul_comm 2]; exact hf, by show 2 * bs ≤ 256; omega, by show mrgC f9 _ _ = _; rw [← hmrg, mrgC_y (by omega), hpr]⟩) (by show l.length - 2 * bs < l.length - bs; omega)
       ·
        refine r_skip (r_then ?_); refine Imp.box_to bb ((endC bs (c2, x)).flatMap encU ++ sp) (by first | rw [endC_y (by omega), hd1] | rw [endC_n (by omega)]) ?_; refine r_region ?_; refine q_mv rfl rfl rfl rfl rfl ?_; refine o_q _ rfl rfl rfl (v_cast (v := i64 ((2 * bs : Nat) : Int)) (v_mul rfl rfl rfl (by omega)) (congrArg (Value.int .i64) (by omega))) ?_; refine q_as rfl rfl rfl rfl rfl ?_; refine o_nil ?_; refine r_in_normal ?_; refine r_then ?_; exact r_next ((f - 1, endC bs (c2, x), 2 * bs)) (by exact r_here (by repeat (first | exact FSub.nil | refine FSub.cons rfl ?_ | refine FSub.cons2 rfl (congrArg (Value.int .i64) (by omega)) ?_)) SelMC.sel SubRC.sub) (by obtain ⟨f9, rfl⟩ : ∃ q, f = q + 1 := ⟨f - 1, by omega⟩; exact ⟨endC_len.trans hd1, endC_sm hd2, by show 20 ≤ 2 * bs; omega, by show l.length ≤ 2 * bs * 2 ^ f9; rw [Nat.pow_succ] at hf; rw [Nat.mul_comm 2 bs, Nat.mul_assoc, Nat.mul_comm 2]; exact hf, by show 2 * bs ≤ 256; omega, by show mrgC f9 _ _ = _; rw [← hmrg, mrgC_y (by omega), hpr]⟩) (by show l.length - 2 * bs < l.length - bs; omega)
    ·
     refine r_exit ?_; refine r_then_exit ?_; refine r_then_exit ?_; refine r_in_here ?_; refine Imp.box_to bb ((stableC l).flatMap encU ++ sp) (by rw [← hmrg, mrgC_n (by omega)]) ?_; exact r_ende [bx bb 116 ((stableC l).flatMap encU ++ sp)] [] (Rd.none rfl) ⟨rfl, rfl, rfl⟩ SelMC.sel SubRC.sub
set_option maxHeartbeats 4000000 in
theorem sortS_s (l : List Nat) (hl : l.length ≤ 128) (hsm : Sm l) (bb cap : Nat) (sp : List Value) : FnC Tryz.prog 109 [.slice (some ⟨bb, 0, none⟩) l.length cap, .func (.func 110) #[] #[]] (bx bb 116 ((l).flatMap encU ++ sp)) [] (.tuple #[]) (bx bb 116 ((stableC l).flatMap encU ++ sp)) := by
 refine FnC.intro Tryz.call109 Tryz.func109 rfl Tryz.ntmps109 rfl ?_; intro W M Rf; refine r_region ?_; refine q_mv rfl rfl rfl rfl rfl ?_; refine q_mv rfl rfl rfl rfl rfl ?_; refine o_q _ rfl rfl rfl (v_len rfl rfl Tryz.underlying119 rfl) ?_; refine q_mv rfl rfl rfl rfl rfl ?_; refine o_fnc (stable_s l hl hsm bb cap sp) rfl [] [] rfl rfl rfl rfl rfl rfl SubRC.sub ?_; refine o_nil ?_; exact r_ende [bx bb 116 ((stableC l).flatMap encU ++ sp)] [] (Rd.none rfl) ⟨rfl, rfl, rfl⟩ SelMC.sel SubRC.sub
end Go.Proofs.YtpndeonmmcaikaaGreat.DrW

namespace Go.Proofs.YtpndeonmmcaikaaGreat.DrW
open Go.G Foot4 Drain7
set_option maxRecDepth 1000000
attribute [local irreducible] G.ParO G.Fin
theorem pairC_len {bs : Nat} : ∀ (f a : Nat) (l : List Nat), (pairC bs f l a).1.length = l.length
  | 0, _, _ => rfl
  | f + 1, a, l => by
    unfold pairC
    split
    · rw [pairC_len f, symC_len]
    · rfl
theorem endC_len2 {bs : Nat} (r : List Nat × Nat) : (endC bs r).length = r.1.length := endC_len (a := r.2) (l := r.1)
theorem mrgC_len : ∀ (f bs : Nat) (l : List Nat), (mrgC f l bs).length = l.length
  | 0, _, _ => rfl
  | f + 1, bs, l => by
    unfold mrgC
    split
    · rw [mrgC_len f, endC_len2, pairC_len]
    · rfl
theorem blkC_len : ∀ (f a : Nat) (l : List Nat), (blkC f l a).1.length = l.length
  | 0, _, _ => rfl
  | f + 1, a, l => by
    unfold blkC
    split
    · rw [blkC_len f, insC_len]
    · rfl
theorem stableC_len (l : List Nat) : (stableC l).length = l.length := by
  unfold stableC
  rw [mrgC_len, insC_len, blkC_len]
set_option maxHeartbeats 4000000 in
theorem sets_s (n : Nat) (hn : n ≤ 7) : FnS Tryz.prog 52 [i64 (n : Int)] [] [] (fun e M' R' => ∃ x : Option Addr × Nat, e = .returned (.slice x.1 (sortedL n).length x.2) ∧ M' = [] ∧ R' = [rowD x.1 1 encU (sortedL n)]) := by
 refine FnS.intro0 Tryz.call52 Tryz.func52 rfl Tryz.ntmps52 rfl ?_; intro W M Rf; refine r_seq (r_region ?_); refine q_as rfl rfl rfl rfl rfl ?_; refine o_nil (r_then (r_seq ?_)); refine r_seq ?_; have h27 : 2 ^ n ≤ 2 ^ 7 := Nat.pow_le_pow_right (by decide) hn; have h20 : 0 < 2 ^ n := Nat.pow_pos (by decide); refine Imp.nilL 116 1 encU ?_; refine r_region ?_; refine q_mv rfl rfl rfl rfl rfl ?_; refine o_q _ rfl rfl rfl (v_shlU (h := n) (m := 2 ^ n) rfl rfl rfl (by omega) rfl) ?_; refine q_mv rfl rfl rfl rfl rfl ?_; refine o_nil (r_then ?_); refine r_block ?_; refine r_loop (ι := Nat × Value) (fun gh => gh.1 ≤ 2 ^ n) (fun gh => [(0, i64 (n : Int)), (2, gh.2), (5, u64 (2 ^ n)), (6, u64 gh.1)]) (fun gh => ownL gh.2 116 1 encU (List.range gh.1) :: M) (fun gh => Rf) (fun gh => 2 ^ n - gh.1) (0, .slice none 0 0) ?_ ?_ ?_
 ·
  refine Imp.own_to (.slice none 0 0) (List.range 0) rfl ?_; exact r_here (by repeat (first | exact FSub.nil | refine FSub.cons rfl ?_)) SelMC.sel SubRC.sub
 ·
  omega
 ·
  rintro ⟨k, v⟩ hI0; dsimp only at hI0; dsimp only; refine r_seq (r_region ?_); refine o_q _ rfl rfl rfl (v_lss rfl rfl rfl) ?_; refine o_nil (r_then (r_seq ?_)); refine r_condd rfl (fun hc7 => ?_) (fun hc7 => ?_)
  ·
   refine r_skip (r_then ?_); refine r_seq (r_block ?_); refine r_seq (r_region ?_); refine q_mv rfl rfl rfl rfl rfl ?_; refine q_as rfl rfl rfl rfl rfl ?_; refine o_nil (r_then ?_); have hkl : (List.range k).length = k := List.length_range; refine Imp.own_is v (fun hs => ?_); obtain ⟨oav, cpv, rfl⟩ := hs; refine r_region ?_; refine q_mv rfl rfl rfl rfl rfl ?_; refine q_mv rfl rfl rfl rfl rfl ?_; refine o_lit rfl Tryz.underlying119 inf116 rfl rfl rfl rfl rfl rfl rfl rfl (by repeat (first | exact trivial | refine ⟨rfl, ?_⟩)) (by rfl) (fun b11 => ?_); refine o_app1 (k) rfl Tryz.underlying119 inf116 rfl (by rfl) (by rfl) rfl rfl rfl rfl rfl (by rfl) (by rfl) (by rfl) (by first | omega | (constructor <;> first | omega | decide)) (fun v12 => ?_); refine q_as rfl rfl rfl rfl rfl ?_; refine o_nil ?_; refine r_in_normal ?_; refine r_then ?_; refine Imp.own_to v12 (List.range (k + 1)) (by rw [List.range_succ]) ?_; refine r_region ?_; refine o_q _ rfl rfl rfl (v_cast (v := u64 (k + 1)) (v_addU rfl rfl rfl (by omega)) (congrArg (Value.int .u64) (by push_cast; rfl))) ?_; refine q_mv rfl rfl rfl rfl rfl ?_; refine o_nil (r_then ?_); exact r_next ((k + 1, v12)) (by exact r_here (by repeat (first | exact FSub.nil | refine FSub.cons rfl ?_)) SelMC.sel SubRC.sub) (by show k + 1 ≤ 2 ^ n; omega) (by show 2 ^ n - (k + 1) < 2 ^ n - k; omega)
  ·
   refine r_exit ?_; refine r_then_exit ?_; refine r_then_exit ?_; refine r_in_here ?_; refine r_then (r_seq ?_); obtain rfl : k = 2 ^ n := by omega
   refine Imp.unownB v (by rw [List.length_range]; exact h20) (fun bb cap sp hv => ?_); subst hv; refine r_region ?_; refine q_mv rfl rfl rfl rfl rfl ?_; refine o_fnc (sortS_s (List.range (2 ^ n)) (by rw [List.length_range]; omega) (Sm.range (by omega)) bb cap sp) rfl [] [] rfl rfl rfl rfl rfl rfl SubRC.sub ?_; refine o_nil (r_then (r_seq (r_region ?_))); refine q_mv rfl rfl rfl rfl rfl ?_; refine q_as rfl rfl rfl rfl rfl ?_; refine o_nil (r_then ?_); refine r_ret ?_; refine Imp.box_to bb ((sortedL n).flatMap encU ++ sp) (by rw [stable_eq hn]) ?_; refine Imp.sealB bb ?_; refine Imp.rowP (b := bb) (sortedL n) encU_len rfl ?_; have hll : (List.range (2 ^ n)).length = (sortedL n).length := by rw [← stable_eq hn]; exact (stableC_len _).symm
   rw [hll]; exact r_rete [] [rowD (some ⟨bb, 0, none⟩) 1 encU (sortedL n)] (Rd.tmp rfl rfl) ⟨(some ⟨bb, 0, none⟩, cap), rfl, rfl, rfl⟩ SelMC.sel SubRC.sub
end Go.Proofs.YtpndeonmmcaikaaGreat.DrW

namespace Drain7
open Go Go.G Foot4
structure L5 where
  a : Int
  b : Int
  c : Int
  d : Int
  e : Int
  deriving DecidableEq, Inhabited
def L5.at (l : L5) : Nat → Int
  | 0 => l.a
  | 1 => l.b
  | 2 => l.c
  | 3 => l.d
  | 4 => l.e
  | _ => 0
def L5.set (l : L5) (i : Nat) (v : Int) : L5 := match i with
  | 0 => { l with a := v }
  | 1 => { l with b := v }
  | 2 => { l with c := v }
  | 3 => { l with d := v }
  | 4 => { l with e := v }
  | _ => l
@[reducible] def cells5 (l : L5) : List Value := [i64 l.a, i64 l.b, i64 l.c, i64 l.d, i64 l.e]
@[reducible] def v5 (l : L5) : Value := .agg #[i64 l.a, i64 l.b, i64 l.c, i64 l.d, i64 l.e]
def encL (l : L5) : List Value := cells5 l
theorem encL_len (l : L5) : (encL l).length = 5 := rfl
@[reducible] def layV (l : L5) (s : Nat) : Value := .agg #[i64 l.a, i64 l.b, i64 l.c, i64 l.d, i64 l.e, u64 s, i64 0, i64 0]
theorem lt5 {i : Nat} (h : i < 5) : i = 0 ∨ i = 1 ∨ i = 2 ∨ i = 3 ∨ i = 4 := by omega
theorem cells5_get {l : L5} {i : Nat} (h : i < 5) : (cells5 l)[0 + i * 1]? = some (i64 (l.at i)) := by
  rcases lt5 h with rfl | rfl | rfl | rfl | rfl <;> rfl
theorem cells5_set {l : L5} {i : Nat} {x : Int} (h : i < 5) : splice (cells5 l) (0 + i * 1) [i64 x] = cells5 (l.set i x) := by
  rcases lt5 h with rfl | rfl | rfl | rfl | rfl <;> rfl
theorem cells5_ble {l : L5} {d : Value} {i : Nat} (h : i < 5) : Nat.ble (0 + i * 1 + [d].length) (cells5 l).length = true := by
  rcases lt5 h with rfl | rfl | rfl | rfl | rfl <;> rfl
theorem L5.at_set {l : L5} {i k : Nat} {x : Int} (hi : i < 5) (hk : k < 5) : (l.set i x).at k = if k = i then x else l.at k := by
  rcases lt5 hi with rfl | rfl | rfl | rfl | rfl <;> rcases lt5 hk with rfl | rfl | rfl | rfl | rfl <;> rfl
theorem L5.set_set {l : L5} {i : Nat} {x y : Int} (hi : i < 5) : (l.set i x).set i y = l.set i y := by
  rcases lt5 hi with rfl | rfl | rfl | rfl | rfl <;> rfl
theorem L5.ext' {l m : L5} (h : ∀ k, k < 5 → l.at k = m.at k) : l = m := by
  obtain ⟨a, b, c, d, e⟩ := l
  obtain ⟨a', b', c', d', e'⟩ := m
  have h0 := h 0 (by omega); have h1 := h 1 (by omega); have h2 := h 2 (by omega); have h3 := h 3 (by omega); have h4 := h 4 (by omega)
  simp only [L5.at] at h0 h1 h2 h3 h4
  subst h0 h1 h2 h3 h4; rfl
def Jn (w : DWay) (x y : Int) : Prop := w.a = x ∧ w.b = y ∨ w.a = y ∧ w.b = x
instance (w : DWay) (x y : Int) : Decidable (Jn w x y) := by unfold Jn; infer_instance
def Off (s i : Nat) : Prop := s / 2 ^ i % 2 = 0
instance (s i : Nat) : Decidable (Off s i) := by unfold Off; infer_instance
def JoinS (D : Dr) (s : Nat) (x y : Int) : Prop := ∃ i, i < D.ways.length ∧ Off s i ∧ Jn (D.ways.getD i default) x y
instance (D : Dr) (s : Nat) (x y : Int) : Decidable (JoinS D s x y) := by unfold JoinS; infer_instance
theorem off_0 (i : Nat) : Off 0 i := by unfold Off; simp
theorem joinS_0 {D : Dr} {x y : Int} : JoinS D 0 x y ↔ ∃ i, i < D.ways.length ∧ Jn (D.ways.getD i default) x y :=
  ⟨fun ⟨i, h, _, h2⟩ => ⟨i, h, h2⟩, fun ⟨i, h, h2⟩ => ⟨i, h, off_0 i, h2⟩⟩
def crK (D : Dr) (l : L5) (s x : Nat) : Nat → Int
  | 0 => -1
  | k + 1 => if JoinS D s x k ∧ l.at k < l.at x ∧ (crK D l s x k = -1 ∨ l.at k < l.at (crK D l s x k).toNat) then k else crK D l s x k
theorem crK_y {D : Dr} {l : L5} {s x k : Nat} (h : JoinS D s x k ∧ l.at k < l.at x ∧ (crK D l s x k = -1 ∨ l.at k < l.at (crK D l s x k).toNat)) : crK D l s x (k + 1) = k := if_pos h
theorem crK_n {D : Dr} {l : L5} {s x k : Nat} (h : ¬ (JoinS D s x k ∧ l.at k < l.at x ∧ (crK D l s x k = -1 ∨ l.at k < l.at (crK D l s x k).toNat))) : crK D l s x (k + 1) = crK D l s x k := if_neg h
theorem crK_bd {D : Dr} {l : L5} {s x : Nat} : ∀ k, -1 ≤ crK D l s x k ∧ crK D l s x k < k ∧ (0 ≤ crK D l s x k → l.at (crK D l s x k).toNat < l.at x)
  | 0 => ⟨Int.le_refl _, by show (-1 : Int) < 0; decide, fun h => absurd h (by show ¬ (0 : Int) ≤ -1; decide)⟩
  | k + 1 => by
    have ih := crK_bd (D := D) (l := l) (s := s) (x := x) k
    by_cases h : JoinS D s x k ∧ l.at k < l.at x ∧ (crK D l s x k = -1 ∨ l.at k < l.at (crK D l s x k).toNat)
    · rw [crK_y h]
      exact ⟨by omega, by omega, fun _ => by rw [Int.toNat_natCast]; exact h.2.1⟩
    · rw [crK_n h]
      exact ⟨ih.1, by omega, ih.2.2⟩
abbrev cr (D : Dr) (l : L5) (s x : Nat) : Int := crK D l s x D.banks.length
def crs (D : Dr) (l : L5) (s : Nat) : List Int := (List.range D.banks.length).map fun x => cr D l s x
theorem crs_len (D : Dr) (l : L5) (s : Nat) : (crs D l s).length = D.banks.length := by simp [crs]
theorem crs_get {D : Dr} {l : L5} {s x : Nat} (h : x < D.banks.length) : (crs D l s).getD x default = cr D l s x := by
  unfold crs
  rw [List.getD_eq_getElem?_getD, List.getElem?_map, List.getElem?_range h]; rfl
def crP (D : Dr) (l : L5) (s k : Nat) (c : Int) : List Int := (List.range D.banks.length).map fun x => if x < k then cr D l s x else if x = k then c else 0
theorem crP_len (D : Dr) (l : L5) (s k : Nat) (c : Int) : (crP D l s k c).length = D.banks.length := by simp [crP]
theorem crP_get {D : Dr} {l : L5} {s k : Nat} {c : Int} (h : k < D.banks.length) : (crP D l s k c).getD k default = c := by
  unfold crP
  rw [List.getD_eq_getElem?_getD, List.getElem?_map, List.getElem?_range h]
  show (if k < k then _ else _) = c
  rw [if_neg (Nat.lt_irrefl _), if_pos rfl]
theorem crP_set {D : Dr} {l : L5} {s k : Nat} {c c' : Int} : (crP D l s k c).set k c' = crP D l s k c' := by
  refine List.ext_getElem? fun i => ?_
  rw [List.getElem?_set]
  unfold crP
  rw [List.getElem?_map, List.getElem?_map, List.length_map, List.length_range]
  by_cases hi : i < D.banks.length
  · rw [List.getElem?_range hi]
    by_cases h : k = i
    · subst h
      rw [if_pos rfl, if_pos hi]
      show some c' = some (if k < k then _ else _)
      rw [if_neg (Nat.lt_irrefl _), if_pos rfl]
    · rw [if_neg h]
      show some (if i < k then _ else _) = some (if i < k then _ else _)
      rw [if_neg (show ¬ i = k from fun e => h e.symm), if_neg (show ¬ i = k from fun e => h e.symm)]
  · rw [List.getElem?_eq_none (by rw [List.length_range]; omega)]
    split
    · rw [if_neg (by omega)]; rfl
    · rfl
theorem crP_step {D : Dr} {l : L5} {s k : Nat} : crP D l s k (cr D l s k) = crP D l s (k + 1) 0 := by
  unfold crP
  refine List.map_congr_left fun x hx => ?_
  by_cases h : x < k
  · rw [if_pos h, if_pos (by omega)]
  · rw [if_neg h]
    by_cases h2 : x = k
    · subst h2; rw [if_pos rfl, if_pos (by omega)]
    · rw [if_neg h2, if_neg (by omega)]
      split <;> rfl
theorem crP_end {D : Dr} {l : L5} {s : Nat} {c : Int} : crP D l s D.banks.length c = crs D l s := by
  unfold crP crs
  refine List.map_congr_left fun x hx => ?_
  rw [if_pos (List.mem_range.1 hx)]
theorem crP_zero {D : Dr} {l : L5} {s : Nat} : crP D l s 0 0 = List.replicate D.banks.length 0 := by
  unfold crP
  rw [List.eq_replicate_iff]
  refine ⟨by simp, fun b hb => ?_⟩
  obtain ⟨x, _, rfl⟩ := List.mem_map.1 hb
  rw [if_neg (by omega)]
  split <;> rfl
def lvs : List DBank → Nat → L5 → List L5
  | [], _, c => [c]
  | p :: ps, i, c => (List.range (p.lhi - p.llo + 1).toNat).flatMap fun j : Nat => lvs ps (i + 1) (c.set i (p.llo + j))
def allL (D : Dr) : List L5 := lvs D.banks 0 ⟨0, 0, 0, 0, 0⟩
def cntL (D : Dr) (i : Nat) : Nat := ((D.banks.getD i default).lhi - (D.banks.getD i default).llo + 1).toNat
def nxL (D : Dr) (c : L5) (i k : Nat) : List L5 := lvs (D.banks.drop (i + 1)) (i + 1) (c.set i ((D.banks.getD i default).llo + (k : Int)))
theorem nxL_eq {D : Dr} {c : L5} {i k : Nat} : nxL D c i k = lvs (D.banks.drop (i + 1)) (i + 1) (c.set i ((D.banks.getD i default).llo + (k : Int))) := rfl
def preL (D : Dr) (c : L5) (i : Nat) : Nat → List L5
  | 0 => []
  | k + 1 => preL D c i k ++ nxL D c i k
theorem range_flatD {α : Type} (f : Nat → List α) (g : Nat → List α) (h0 : g 0 = []) (hs : ∀ k, g (k + 1) = g k ++ f k) : ∀ n, (List.range n).flatMap f = g n
  | 0 => by rw [h0]; rfl
  | n + 1 => by rw [List.range_succ, List.flatMap_append, range_flatD f g h0 hs n, hs]; simp
theorem drop_consD {α : Type} [Inhabited α] : ∀ {l : List α} {i : Nat}, i < l.length → l.drop i = l.getD i default :: l.drop (i + 1)
  | x :: l, 0, _ => rfl
  | x :: l, i + 1, h => by
    have := drop_consD (l := l) (i := i) (by simpa using h)
    simpa using this
theorem lvs_split {D : Dr} {c : L5} {i : Nat} (h : i < D.banks.length) : lvs (D.banks.drop i) i c = preL D c i (cntL D i) := by
  rw [drop_consD h]
  exact range_flatD _ (preL D c i) rfl (fun k => rfl) _
theorem lvs_end {D : Dr} {c : L5} {i : Nat} (h : D.banks.length ≤ i) : lvs (D.banks.drop i) i c = [c] := by
  rw [List.drop_eq_nil_of_le h]; rfl
def SubG {α : Type} (l xs : List α) (i0 : Nat) : Prop := ∀ (j : Nat) (y : α), l[j]? = some y → xs[i0 + j]? = some y
theorem SubG.left {α : Type} {a b xs : List α} {i0 : Nat} (h : SubG (a ++ b) xs i0) : SubG a xs i0 := fun j y hj => h j y (by
  have : j < a.length := by
    by_cases hl : j < a.length
    · exact hl
    · rw [List.getElem?_eq_none (by omega)] at hj; cases hj
  rw [List.getElem?_append_left this]; exact hj)
theorem SubG.right {α : Type} {a b xs : List α} {i0 : Nat} (h : SubG (a ++ b) xs i0) : SubG b xs (i0 + a.length) := fun j y hj => by
  have := h (a.length + j) y (by rw [List.getElem?_append_right (by omega)]; rw [show a.length + j - a.length = j from by omega]; exact hj)
  rw [show i0 + a.length + j = i0 + (a.length + j) from by omega]; exact this
theorem subL_mid {D : Dr} {c : L5} {i i0 k : Nat} {xs : List L5} : ∀ n, SubG (preL D c i n) xs i0 → k < n → SubG (nxL D c i k) xs (i0 + (preL D c i k).length)
  | 0, _, h => by omega
  | n + 1, h, hk => by
    by_cases e : k = n
    · subst e; exact h.right
    · exact subL_mid n h.left (by omega)
theorem preL_len {D : Dr} {c : L5} {i k : Nat} : (preL D c i (k + 1)).length = (preL D c i k).length + (nxL D c i k).length := by rw [preL, List.length_append]
theorem mem_lvs {c : L5} : ∀ (ps : List DBank) (i : Nat) (c0 : L5), i + ps.length ≤ 5 → (∀ p ∈ ps, p.llo ≤ p.lhi) →
    (c ∈ lvs ps i c0 ↔ (∀ j, j < ps.length → (ps.getD j default).llo ≤ c.at (i + j) ∧ c.at (i + j) ≤ (ps.getD j default).lhi) ∧ ∀ k, k < 5 → (k < i ∨ i + ps.length ≤ k) → c.at k = c0.at k)
  | [], i, c0, h, _ => by
    simp only [lvs, List.mem_singleton, List.length_nil, Nat.add_zero]
    constructor
    · rintro rfl; exact ⟨fun j hj => absurd hj (by omega), fun k _ _ => rfl⟩
    · intro ⟨_, h2⟩; exact L5.ext' fun k hk => h2 k hk (by omega)
  | p :: ps, i, c0, h, hp => by
    rw [List.length_cons] at h
    have hpl := hp p (by simp)
    have ih := fun c1 => mem_lvs (c := c) ps (i + 1) c1 (by omega) (fun q hq => hp q (List.mem_cons_of_mem _ hq))
    simp only [lvs, List.mem_flatMap, List.mem_range]
    constructor
    · rintro ⟨j, hj, hc⟩
      obtain ⟨h1, h2⟩ := (ih _).1 hc
      have hci : c.at i = p.llo + j := by rw [h2 i (by omega) (by omega), L5.at_set (by omega) (by omega), if_pos rfl]
      refine ⟨fun m hm => ?_, fun k hk hk2 => ?_⟩
      · cases m with
        | zero => show p.llo ≤ c.at i ∧ c.at i ≤ p.lhi; omega
        | succ m =>
          have := h1 m (by simpa using hm)
          rw [show i + (m + 1) = i + 1 + m from by omega]; exact this
      · rw [List.length_cons] at hk2
        rw [h2 k hk (by omega), L5.at_set (by omega) hk, if_neg (by omega)]
    · intro ⟨h1, h2⟩
      have h0 := h1 0 (by simp)
      have h0' : p.llo ≤ c.at i ∧ c.at i ≤ p.lhi := h0
      refine ⟨(c.at i - p.llo).toNat, by omega, (ih _).2 ⟨fun m hm => ?_, fun k hk hk2 => ?_⟩⟩
      · have := h1 (m + 1) (by rw [List.length_cons]; omega)
        rw [show i + 1 + m = i + (m + 1) from by omega]; exact this
      · rw [L5.at_set (by omega) hk]
        split
        · rename_i e; subst e; omega
        · exact h2 k hk (by rw [List.length_cons]; omega)
theorem mem_allL {D : Dr} (hg : GoodD D) {c : L5} : c ∈ allL D ↔ (∀ j, j < D.banks.length → (D.banks.getD j default).llo ≤ c.at j ∧ c.at j ≤ (D.banks.getD j default).lhi) ∧ ∀ k, k < 5 → D.banks.length ≤ k → c.at k = 0 := by
  unfold allL
  have h5 := hg.1.2
  rw [mem_lvs D.banks 0 _ (by omega) (fun p hp => by
    obtain ⟨k, hk, rfl⟩ := List.mem_iff_getElem.1 hp
    have := (hg.2.2.2.2.1 k hk).1
    rw [List.getD_eq_getElem?_getD, List.getElem?_eq_getElem hk] at this
    exact this.2.1)]
  simp only [Nat.zero_add]
  refine ⟨fun ⟨h1, h2⟩ => ⟨h1, fun k hk hk2 => ?_⟩, fun ⟨h1, h2⟩ => ⟨h1, fun k hk hk2 => ?_⟩⟩
  · rw [h2 k hk (.inr hk2)]
    rcases lt5 hk with rfl | rfl | rfl | rfl | rfl <;> rfl
  · rw [h2 k hk (by omega)]
    rcases lt5 hk with rfl | rfl | rfl | rfl | rfl <;> rfl
def InL (l : L5) : Prop := ∀ k, k < 5 → 0 ≤ l.at k ∧ l.at k ≤ 20
theorem allL_in {D : Dr} (hg : GoodD D) {c : L5} (h : c ∈ allL D) : InL c := fun k hk => by
  obtain ⟨h1, h2⟩ := (mem_allL hg).1 h
  by_cases hb : k < D.banks.length
  · have := h1 k hb
    have h3 := (hg.2.2.2.2.1 k hb).1
    unfold SpanD at h3
    omega
  · rw [h2 k hk (by omega)]; omega
theorem lvs_len : ∀ (ps : List DBank) (i : Nat) (c : L5), (∀ p ∈ ps, p.lhi - p.llo ≤ 2) → (lvs ps i c).length ≤ 3 ^ ps.length
  | [], _, _, _ => by simp [lvs]
  | p :: ps, i, c, h => by
    have h1 := h p (by simp)
    have h2 : ∀ (rs : List Nat), (rs.flatMap fun j : Nat => lvs ps (i + 1) (c.set i (p.llo + (j : Int)))).length ≤ rs.length * 3 ^ ps.length := by
      intro rs
      induction rs with
      | nil => simp
      | cons r rs ih =>
        have h3 := lvs_len ps (i + 1) (c.set i (p.llo + (r : Int))) (fun q hq => h q (List.mem_cons_of_mem _ hq))
        rw [List.flatMap_cons, List.length_append, List.length_cons, Nat.add_mul]
        omega
    have h3 := h2 (List.range (p.lhi - p.llo + 1).toNat)
    rw [List.length_range] at h3
    rw [lvs, List.length_cons, Nat.pow_succ, Nat.mul_comm]
    have h4 : (p.lhi - p.llo + 1).toNat * 3 ^ ps.length ≤ 3 * 3 ^ ps.length := Nat.mul_le_mul_right _ (by omega)
    omega
theorem allL_len {D : Dr} (hg : GoodD D) : (allL D).length ≤ 243 := by
  have h5 := hg.1.2
  have h := lvs_len D.banks 0 ⟨0, 0, 0, 0, 0⟩ (fun p hp => by
    obtain ⟨k, hk, rfl⟩ := List.mem_iff_getElem.1 hp
    have := (hg.2.2.2.2.1 k hk).1
    rw [List.getD_eq_getElem?_getD, List.getElem?_eq_getElem hk] at this
    exact this.2.2.2)
  have h4 : 3 ^ D.banks.length ≤ 3 ^ 5 := Nat.pow_le_pow_right (by decide) (by omega)
  unfold allL
  omega
theorem lvs_pos : ∀ (ps : List DBank) (i : Nat) (c : L5), (∀ p ∈ ps, p.llo ≤ p.lhi) → 0 < (lvs ps i c).length
  | [], _, _, _ => by simp [lvs]
  | p :: ps, i, c, h => by
    have h1 := h p (by simp)
    obtain ⟨n, hn⟩ : ∃ n, (p.lhi - p.llo + 1).toNat = n + 1 := ⟨(p.lhi - p.llo).toNat, by omega⟩
    have h2 := lvs_pos ps (i + 1) (c.set i (p.llo + ((0 : Nat) : Int))) (fun q hq => h q (List.mem_cons_of_mem _ hq))
    rw [lvs, hn, List.range_succ_eq_map, List.flatMap_cons, List.length_append]
    omega
theorem allL_pos {D : Dr} (hg : GoodD D) : 0 < (allL D).length := lvs_pos _ _ _ fun p hp => by
  obtain ⟨k, hk, rfl⟩ := List.mem_iff_getElem.1 hp
  have := (hg.2.2.2.2.1 k hk).1
  rw [List.getD_eq_getElem?_getD, List.getElem?_eq_getElem hk] at this
  exact this.2.1
structure W2 where
  lo : Int
  hi : Int
  deriving DecidableEq, Inhabited
def encW2 (x : W2) : List Value := [i64 x.lo, i64 x.hi]
theorem encW2_len (x : W2) : (encW2 x).length = 2 := rfl
@[reducible] def vW (x : W2) : Value := .agg #[i64 x.lo, i64 x.hi]
def yldW (D : Dr) (b : Nat) : W2 := ⟨(D.banks.getD b default).ylo, (D.banks.getD b default).yhi⟩
def sumW2 (l : List W2) : Nat → W2
  | 0 => ⟨0, 0⟩
  | k + 1 => ⟨(sumW2 l k).lo + (l.getD k default).lo, (sumW2 l k).hi + (l.getD k default).hi⟩
def wat (D : Dr) (l : L5) (s : Nat) : Nat → Nat → W2
  | 0, b => yldW D b
  | f + 1, b => let r := yldW D b :: ((List.range D.banks.length).filter fun x => decide (cr D l s x = b)).map (wat D l s f)
    sumW2 r r.length
def watL (D : Dr) (l : L5) (s f b k : Nat) : List W2 := yldW D b :: ((List.range k).filter fun x => decide (cr D l s x = b)).map (wat D l s f)
theorem wat_s (D : Dr) (l : L5) (s f b : Nat) : wat D l s (f + 1) b = sumW2 (watL D l s f b D.banks.length) (watL D l s f b D.banks.length).length := rfl
theorem watL_0 (D : Dr) (l : L5) (s f b : Nat) : watL D l s f b 0 = [yldW D b] := rfl
theorem watL_y {D : Dr} {l : L5} {s f b k : Nat} (h : cr D l s k = b) : watL D l s f b (k + 1) = watL D l s f b k ++ [wat D l s f k] := by
  unfold watL
  rw [List.range_succ, List.filter_append, List.map_append]
  simp [h]
theorem watL_n {D : Dr} {l : L5} {s f b k : Nat} (h : ¬ cr D l s k = b) : watL D l s f b (k + 1) = watL D l s f b k := by
  unfold watL
  rw [List.range_succ, List.filter_append, List.map_append]
  simp [h]
theorem watL_len (D : Dr) (l : L5) (s f b k : Nat) : (watL D l s f b k).length ≤ k + 1 := by
  unfold watL
  rw [List.length_cons, List.length_map]
  have := List.length_filter_le (fun x => decide (cr D l s x = (b : Int))) (List.range k)
  rw [List.length_range] at this
  omega
def flowW (D : Dr) (l : L5) (s : Nat) (r : Right) : W2 := if cr D l s r.of_.toNat = r.to_ then wat D l s 21 r.of_.toNat else ⟨0, 0⟩
def KeepR (D : Dr) (l : L5) (s : Nat) (r : Right) : Prop := (flowW D l s r).hi ≤ r.most
instance (D : Dr) (l : L5) (s : Nat) (r : Right) : Decidable (KeepR D l s r) := by unfold KeepR; infer_instance
def Keeps (D : Dr) (l : L5) (s : Nat) : Prop := ∀ k, k < D.rights.length → KeepR D l s (D.rights.getD k default)
instance (D : Dr) (l : L5) (s : Nat) : Decidable (Keeps D l s) := by unfold Keeps; infer_instance
def KeepA (D : Dr) (s : Nat) : Prop := ∀ k, k < (allL D).length → Keeps D ((allL D).getD k default) s
instance (D : Dr) (s : Nat) : Decidable (KeepA D s) := by unfold KeepA; infer_instance
def stopD (D : Dr) : Nat := ((sortedL D.ways.length).find? fun s => decide (KeepA D s)).getD 0
def BdW (n : Int) (x : W2) : Prop := (0 ≤ x.lo ∧ x.lo ≤ n) ∧ (0 ≤ x.hi ∧ x.hi ≤ n)
theorem sumW2_bd {l : List W2} {n : Int} (hn : 0 ≤ n) (h : ∀ k, k < l.length → BdW n (l.getD k default)) : ∀ k, k ≤ l.length → BdW (k * n) (sumW2 l k)
  | 0, _ => by unfold BdW; show (0 ≤ (0 : Int) ∧ _ ≤ ((0 : Nat) : Int) * n) ∧ (0 ≤ (0 : Int) ∧ _ ≤ ((0 : Nat) : Int) * n); simp [sumW2]
  | k + 1, hk => by
    have ih := sumW2_bd hn h k (by omega)
    have h1 := h k (by omega)
    unfold BdW at *
    have e : ((k + 1 : Nat) : Int) * n = (k : Int) * n + n := by push_cast; rw [Int.add_mul, Int.one_mul]
    rw [e]
    show (0 ≤ (sumW2 l k).lo + _ ∧ (sumW2 l k).lo + _ ≤ _) ∧ (0 ≤ (sumW2 l k).hi + _ ∧ (sumW2 l k).hi + _ ≤ _)
    omega
def wB : Nat → Int
  | 0 => 20
  | f + 1 => 6 * wB f
theorem wB_pos : ∀ f, 20 ≤ wB f
  | 0 => Int.le_refl _
  | f + 1 => by have := wB_pos f; show 20 ≤ 6 * wB f; omega
theorem wB_mono (f : Nat) : wB f ≤ wB (f + 1) := by have := wB_pos f; show wB f ≤ 6 * wB f; omega
theorem wB_le : ∀ {f g : Nat}, f ≤ g → wB f ≤ wB g
  | f, 0, h => by obtain rfl : f = 0 := by omega
                  exact Int.le_refl _
  | f, g + 1, h => by
    by_cases e : f = g + 1
    · subst e; exact Int.le_refl _
    · exact Int.le_trans (wB_le (f := f) (g := g) (by omega)) (wB_mono g)
theorem yld_bd {D : Dr} (hg : GoodD D) {b : Nat} (h : b < D.banks.length) : BdW 20 (yldW D b) := by
  have h1 := (hg.2.2.2.2.1 b h).2
  unfold SpanD at h1
  unfold BdW yldW
  dsimp only
  omega
theorem BdW.mono {n m : Int} {x : W2} (h : BdW n x) (hm : n ≤ m) : BdW m x := by unfold BdW at *; omega
theorem wat_bd {D : Dr} (hg : GoodD D) {l : L5} {s : Nat} : ∀ (f b : Nat), b < D.banks.length → BdW (wB f) (wat D l s f b)
  | 0, b, h => yld_bd hg h
  | f + 1, b, h => by
    rw [wat_s]
    have hl := watL_len D l s f b D.banks.length
    have h5 := hg.1.2
    have hp := wB_pos f
    have h1 : ∀ k, k < (watL D l s f b D.banks.length).length → BdW (wB f) ((watL D l s f b D.banks.length).getD k default) := by
      intro k hk
      have hm : (watL D l s f b D.banks.length).getD k default ∈ watL D l s f b D.banks.length := by
        rw [List.getD_eq_getElem?_getD, List.getElem?_eq_getElem hk]; exact List.getElem_mem hk
      generalize (watL D l s f b D.banks.length).getD k default = y at hm
      unfold watL at hm
      rcases List.mem_cons.1 hm with rfl | hm
      · exact (yld_bd hg h).mono hp
      · obtain ⟨x, hx, rfl⟩ := List.mem_map.1 hm
        exact wat_bd hg f x (List.mem_range.1 (List.mem_filter.1 hx).1)
    have h2 := sumW2_bd (by omega) h1 _ (Nat.le_refl _)
    refine h2.mono ?_
    show _ ≤ 6 * wB f
    exact Int.mul_le_mul_of_nonneg_right (by omega) (by omega)
theorem watL_bd {D : Dr} (hg : GoodD D) {l : L5} {s f b : Nat} (hb : b < D.banks.length) (hf : f ≤ 21) {n : Nat} (hn : n ≤ D.banks.length) {k : Nat} (hk : k < (watL D l s f b n).length) : BdW (wB 21) ((watL D l s f b n).getD k default) := by
  have hm : (watL D l s f b n).getD k default ∈ watL D l s f b n := by
    rw [List.getD_eq_getElem?_getD, List.getElem?_eq_getElem hk]; exact List.getElem_mem hk
  generalize (watL D l s f b n).getD k default = y at hm
  unfold watL at hm
  rcases List.mem_cons.1 hm with rfl | hm
  · exact (yld_bd hg hb).mono (wB_pos 21)
  · obtain ⟨x, hx, rfl⟩ := List.mem_map.1 hm
    exact (wat_bd hg f x (by have := List.mem_range.1 (List.mem_filter.1 hx).1; omega)).mono (wB_le hf)
end Drain7

namespace Go.G
variable {P : Program} {W : World} {n : Nat} {D : List Deferred} {L : Tm} {M : List Res} {R : List Fact}
theorem v_ifeq0 {o : Oper} {T u : TypeId} {x : Operand} {ms : Array (String × TypeId)} (ho : o.op = .binOp .eql T x (.const .nilIface) u) (hT : P.underlying T = some (.interface ms)) (hx : ev L x = some .nilIface) : OpQ P W n L M R o (.bool true) :=
  OpQ.of_value fun f w h1 _ => by
    have e := h1.ev hx
    have hb : (binOp .eql T .nilIface .nilIface).run P w = .ok (.bool true) w := by
      show Sem.run P (do pure (Value.bool (← Op.equal T .nilIface .nilIface))) w = _
      simp only [Sem.run_bind, run_eqNil2 hT, Result.andThen_ok, Sem.run_pure]
    unfold execOp
    simp [ho, e, eqGuard, hb, show f.eval (.const .nilIface) = .nilIface from rfl]
structure AnsR (P : Program) (k : FuncId) : Prop where
  enter : ∀ (ag : Array Value) (w : World), (callFunc k ag).run P w = .ok (.enter k ag) w
  ret : ∀ W M R w b, St W M R w → CallsD P k #[pt b 0] .returning w fun e u' w' => (∃ v, e = .returned v) ∧ u' = .returning ∧ St W M R w'
theorem AnsR.intro {k k2 : FuncId} {fn : Func} {id : Nat} {o0 o1 : Oper} {d : Nat} {d1 : Nat} {ts ts1 : Array TypeId} {u v : Value} (he : ∀ (ag : Array Value) (w : World), (callFunc k ag).run P w = .ok (.enter k ag) w)
    (h2 : ∀ b, FnV P k2 [.nilIface, pt b 0] [] u) (hf : P.funcs[k]? = some fn) (hb : fn.body = some (.region id [o0, o1].toArray false)) (hn : fn.ntmps = n) (ha : Nat.ble 1 n = true)
    (ho : o0.op = .call { callee := .builtin .recover, args := #[], argTypes := ts }) (hg : o0.guard = none) (hdst : o0.dst = some d) (hd : Nat.blt d n = true) (hd0 : Nat.beq d 0 = false)
    (ho1 : o1.op = .call { callee := .value (.func k2), args := [Operand.tmp d, Operand.tmp 0].toArray, argTypes := ts1 }) (hg1 : o1.guard = none) (hdst1 : o1.dst = some d1) (hd1 : Nat.blt d1 n = true)
    (hr : ∀ W L M R, Rd P W n L M R fn v) : AnsR P k := by
  refine ⟨he, fun W M R w b hw => callsD_of_wpS hf hb (fun c₀ cs hu => wpS_region ?_)⟩
  have hrun : ∀ ρ : Operand → Value, (execOp ρ o0).run P w = .ok .recover w := by
    intro ρ
    unfold execOp
    simp [ho, resolve, invoke, builtin, Sem.run_pure]
  have hr2 : List.range [o0, o1].toArray.size = [0, 1] := rfl
  rw [hr2]
  unfold wpOpsS
  rw [show [o0, o1].toArray[0]? = some o0 from by simp]
  simp only [Region.wanted, hg, if_true, hrun]
  rw [rec_ret hu]
  rw [hdst, hn]
  have hS := (FSat.entry (args := [pt b 0]) (Nat.le_of_ble_eq_true ha)).put (by simpa using hd) Value.nilIface
  have hL : evs ((d, Value.nilIface) :: argsL [pt b 0] 0) [.tmp d, .tmp 0] = some [.nilIface, pt b 0] := by
    have e1 : look ((d, Value.nilIface) :: argsL [pt b 0] 0) d = some .nilIface := look_cons_eq
    have e2 : look ((d, Value.nilIface) :: argsL [pt b 0] 0) 0 = some (pt b 0) := by
      rw [look_cons_ne (by intro h; subst h; simp at hd0)]; rfl
    simp [evs, ev, e1, e2]
  simp only [wpOpsS]
  rw [show [o0, o1].toArray[1]? = some o1 from by simp]
  simp only [Region.wanted, hg1, if_true]
  have hx := exec_call (P := P) (w := w) [] [] ho1 rfl (hS.evs hL) (h2 b).enter
  simp only [List.nil_append, List.append_nil] at hx
  rw [show (#[pt b 0] ++ Array.replicate (n - #[pt b 0].size) undef) = [pt b 0].toArray ++ Array.replicate (n - [pt b 0].toArray.size) undef from rfl]
  rw [hx]
  refine ((h2 b).calls W M R w (by simpa using hw)).mono ?_
  rintro e w' ⟨rfl, hw'⟩
  refine ⟨by rw [put_defers, put_defers], .returning, by rw [← hu], v, ?_, ⟨v, rfl⟩, rfl, by simpa using hw'⟩
  rw [hdst1]
  exact hr W _ M R _ w' (hS.put (by simpa using hd1) u) (by simpa using hw')
theorem o_deferV {Q : Exit → Act → World → Prop} {o : Oper} {ops : Array Oper} {rest : List Oper} {k : FuncId} {x : Operand} {ts : Array TypeId} {caps : List Value}
    (ho : o.op = .defer { callee := .value x, args := #[], argTypes := ts }) (hx : ev L x = some (.func (.func k) #[] caps.toArray)) (hg : o.guard = none) (hdst : o.dst = none)
    (h : Imp W n ({ target := .fn (.func k) caps.toArray, args := #[] } :: D) L M R (wpList P ops Q rest)) : Imp W n D L M R (wpList P ops Q (o :: rest)) := by
  intro a w h1 h2 h3
  refine wpList_plain hg fun K hK => ?_
  unfold Oper.wp
  have hrun : (execOp a.eval o).run P w = .ok (.defer { target := .fn (.func k) caps.toArray, args := #[] }) w := by
    unfold execOp
    have e := h1.ev hx
    simp [ho, resolve, e, Deferred.ofValue, Sem.run_bind, Sem.run_pure, Result.andThen_ok]
  rw [hrun]
  show K _ w
  rw [hdst]
  refine hK _ _ (h _ w ?_ ?_ h3)
  · exact ⟨h1.size, h1.vals⟩
  · show _ :: a.defers = _
    rw [h2]
theorem leaves_retC {k : FuncId} {b : Nat} {fn : Func} {v : Value} {Rr : Ending → World → Prop} (ha : AnsR P k) (hr : Rd P W n L M R fn v) (hp : ∀ w', St W M R w' → Rr (.returned v) w') :
    Imp W n [{ target := .fn (.func k) [pt b 0].toArray, args := #[] }] L M R (bodyPostD P fn Rr .ret) := by
  intro a w h1 h2 h3
  show Leaves P fn a.tmps Rr a.defers .returning w
  rw [h2]
  refine leaves_cons (by simp) (by simp [invoke, ha.enter]) ((ha.ret W M R w b h3).mono ?_)
  rintro e u' w' ⟨⟨u, rfl⟩, rfl, h4⟩
  exact ⟨v, hr a w' h1 h4, hp w' h4⟩
theorem d_retvC {k : FuncId} {b : Nat} {fn : Func} {u v : Value} {M0 : List Res} {R0 : List Fact} (ha : AnsR P k) (hr : Rd P W n L M R fn u) (he : u = v) (hM : SelM M M0) (hR : SubR R R0) :
    Imp W n [{ target := .fn (.func k) [pt b 0].toArray, args := #[] }] L M R (bodyPostD P fn (RetV W M0 R0 v) .ret) :=
  leaves_retC ha hr (fun w' h => ⟨by rw [he], (h.sel hM).weak hR⟩)
end Go.G

namespace Go.Proofs.YtpndeonmmcaikaaGreat.DrW
open Go.G Foot4 Drain7
set_option maxRecDepth 1000000
attribute [local irreducible] G.ParO G.Fin
set_option maxHeartbeats 4000000 in
theorem stoppedD_v (b : Nat) : FnV Tryz.prog 47 [.nilIface, pt b 0] [] (.tuple #[]) := by
 refine FnV.intro Tryz.call47 Tryz.func47 rfl Tryz.ntmps47 rfl ?_; intro W M Rf; refine r_seq ?_; refine r_seq (r_region ?_); refine q_mv rfl rfl rfl rfl rfl ?_; refine o_q _ rfl rfl rfl (v_ifeq0 rfl Tryz.underlying20 rfl) ?_; refine o_nil (r_then ?_); refine r_cond rfl (fun hc7 => ?_) (fun hc7 => ?_)
 ·
  refine r_ret ?_; (with_reducible refine r_then_ret ?_); exact r_retv2 (Rd.none rfl) rfl SelMC.sel SubRC.sub
 ·
  (exfalso; revert hc7; decide)
theorem ansD : AnsR Tryz.prog 46 := AnsR.intro Tryz.call46 (fun b => stoppedD_v b) Tryz.func46 rfl Tryz.ntmps46 rfl rfl rfl rfl rfl rfl rfl rfl rfl rfl (fun _ _ _ _ => Rd.none rfl)
set_option maxHeartbeats 4000000 in
theorem stoppedK_v (b : Nat) : FnV Tryz.prog 40 [.nilIface, pt b 0] [] (.tuple #[]) := by
 refine FnV.intro Tryz.call40 Tryz.func40 rfl Tryz.ntmps40 rfl ?_; intro W M Rf; refine r_seq ?_; refine r_seq (r_region ?_); refine q_mv rfl rfl rfl rfl rfl ?_; refine o_q _ rfl rfl rfl (v_ifeq0 rfl Tryz.underlying20 rfl) ?_; refine o_nil (r_then ?_); refine r_cond rfl (fun hc7 => ?_) (fun hc7 => ?_)
 ·
  refine r_ret ?_; (with_reducible refine r_then_ret ?_); exact r_retv2 (Rd.none rfl) rfl SelMC.sel SubRC.sub
 ·
  (exfalso; revert hc7; decide)
theorem ansK : AnsR Tryz.prog 39 := AnsR.intro Tryz.call39 (fun b => stoppedK_v b) Tryz.func39 rfl Tryz.ntmps39 rfl rfl rfl rfl rfl rfl rfl rfl rfl rfl (fun _ _ _ _ => Rd.none rfl)
set_option maxHeartbeats 4000000 in
theorem always_v (bb : Nat) : FnV Tryz.prog 49 [pt bb 0] [] (.bool true) := by
 refine FnV.intro Tryz.call49 Tryz.func49 rfl Tryz.ntmps49 rfl ?_; intro W M Rf; refine r_seq (r_region ?_); refine q_as rfl rfl rfl rfl rfl ?_; refine o_nil (r_then (r_seq (r_region ?_))); refine q_as rfl rfl rfl rfl rfl ?_; refine o_nil (r_then ?_); refine r_ret ?_; exact r_retv2 (Rd.tmp rfl rfl) rfl SelMC.sel SubRC.sub
set_option maxHeartbeats 4000000 in
theorem spanD_o (lo hi b : Int) (hb : b ≤ 1000) : FnV Tryz.prog 101 [.agg #[i64 lo, i64 hi], i64 b] [] (.bool (decide (SpanD lo hi b))) := by
 refine FnV.intro Tryz.call101 Tryz.func101 rfl Tryz.ntmps101 rfl ?_; intro W M Rf; refine r_seq (r_region ?_); refine o_boxA rfl rfl rfl rfl rfl (fun b2 => ?_); refine q_as rfl rfl rfl rfl rfl ?_; refine o_nil (r_then (r_seq (r_region ?_))); refine o_q _ rfl rfl rfl (v_fieldAddr rfl Tryz.underlying43 inf3 rfl rfl rfl rfl) ?_; refine o_q _ rfl rfl rfl (v_ld1 rfl Tryz.underlying3 rfl rfl rfl) ?_; refine o_test rfl rfl rfl (v_leq rfl rfl rfl) (fun h7 => ?_) (fun h7 => ?_)
 all_goals
  refine q_mv rfl rfl rfl rfl rfl ?_
  first | refine o_gn rfl rfl rfl rfl ?_ | refine o_g _ rfl rfl rfl rfl (v_fieldAddr rfl Tryz.underlying43 inf3 rfl rfl rfl rfl) ?_
  first | refine o_gn rfl rfl rfl rfl ?_ | refine o_g _ rfl rfl rfl rfl (v_ld1 rfl Tryz.underlying3 rfl rfl rfl) ?_
  first | refine o_gn rfl rfl rfl rfl ?_ | refine o_g _ rfl rfl rfl rfl (v_fieldAddr rfl Tryz.underlying43 inf3 rfl rfl rfl rfl) ?_
  first | refine o_gn rfl rfl rfl rfl ?_ | refine o_g _ rfl rfl rfl rfl (v_ld1 rfl Tryz.underlying3 rfl rfl rfl) ?_
  first | refine o_gn rfl rfl rfl rfl ?_ | refine o_gtest rfl rfl rfl rfl (v_leq rfl rfl rfl) (fun h13 => ?_) (fun h13 => ?_)
  all_goals
   first | refine o_q _ rfl rfl rfl (v_pick_t rfl rfl rfl) ?_ | refine o_q _ rfl rfl rfl (v_pick_f rfl rfl rfl) ?_
   refine q_mv rfl rfl rfl rfl rfl ?_
   first | refine o_gn rfl rfl rfl rfl ?_ | refine o_g _ rfl rfl rfl rfl (v_fieldAddr rfl Tryz.underlying43 inf3 rfl rfl rfl rfl) ?_
   first | refine o_gn rfl rfl rfl rfl ?_ | refine o_g _ rfl rfl rfl rfl (v_ld1 rfl Tryz.underlying3 rfl rfl rfl) ?_
   first | refine o_gn rfl rfl rfl rfl ?_ | refine o_g _ rfl rfl rfl rfl (v_move rfl rfl) ?_
   first | refine o_gn rfl rfl rfl rfl ?_ | refine o_gtest rfl rfl rfl rfl (v_leq rfl rfl rfl) (fun h19 => ?_) (fun h19 => ?_)
   all_goals
    first | refine o_q _ rfl rfl rfl (v_pick_t rfl rfl rfl) ?_ | refine o_q _ rfl rfl rfl (v_pick_f rfl rfl rfl) ?_
    refine q_mv rfl rfl rfl rfl rfl ?_
    first | refine o_gn rfl rfl rfl rfl ?_ | refine o_g _ rfl rfl rfl rfl (v_fieldAddr rfl Tryz.underlying43 inf3 rfl rfl rfl rfl) ?_
    first | refine o_gn rfl rfl rfl rfl ?_ | refine o_g _ rfl rfl rfl rfl (v_ld1 rfl Tryz.underlying3 rfl rfl rfl) ?_
    first | refine o_gn rfl rfl rfl rfl ?_ | refine o_g _ rfl rfl rfl rfl (v_fieldAddr rfl Tryz.underlying43 inf3 rfl rfl rfl rfl) ?_
    first | refine o_gn rfl rfl rfl rfl ?_ | refine o_g _ rfl rfl rfl rfl (v_ld1 rfl Tryz.underlying3 rfl rfl rfl) ?_
    first | refine o_gn rfl rfl rfl rfl ?_ | refine o_g _ rfl rfl rfl rfl (v_sub rfl rfl rfl (by omega)) ?_
    first | refine o_gn rfl rfl rfl rfl ?_ | refine o_gtest rfl rfl rfl rfl (v_leq rfl rfl rfl) (fun h27 => ?_) (fun h27 => ?_)
    all_goals
     first | refine o_q _ rfl rfl rfl (v_pick_t rfl rfl rfl) ?_ | refine o_q _ rfl rfl rfl (v_pick_f rfl rfl rfl) ?_
     refine q_as rfl rfl rfl rfl rfl ?_; refine o_nil (r_then ?_); refine r_ret ?_
     first | exact r_retv2 (Rd.tmp rfl rfl) (congrArg Value.bool (decide_eq_true (show SpanD lo hi b from ⟨by omega, by omega, by omega, by omega⟩)).symm) SelMC.sel SubRC.sub | exact r_retv2 (Rd.tmp rfl rfl) (congrArg Value.bool (decide_eq_false (fun h => by unfold SpanD at h; omega)).symm) SelMC.sel SubRC.sub
set_option maxHeartbeats 4000000 in
theorem jn_v (w : DWay) (x y : Int) : FnV Tryz.prog 229 [.agg #[i64 w.a, i64 w.b], i64 x, i64 y] [] (.bool (decide (Jn w x y))) := by
 refine FnV.intro Tryz.call229 Tryz.func229 rfl Tryz.ntmps229 rfl ?_; intro W M Rf; refine r_seq (r_region ?_); refine o_boxA rfl rfl rfl rfl rfl (fun b3 => ?_); refine q_as rfl rfl rfl rfl rfl ?_; refine o_nil (r_then (r_seq (r_region ?_))); refine o_q _ rfl rfl rfl (v_fieldAddr rfl Tryz.underlying92 inf3 rfl rfl rfl rfl) ?_; refine o_q _ rfl rfl rfl (v_ld1 rfl Tryz.underlying3 rfl rfl rfl) ?_; refine q_mv rfl rfl rfl rfl rfl ?_; refine o_test rfl rfl rfl (v_eql rfl rfl rfl) (fun h10 => ?_) (fun h10 => ?_)
 all_goals
  refine q_mv rfl rfl rfl rfl rfl ?_
  first | refine o_gn rfl rfl rfl rfl ?_ | refine o_g _ rfl rfl rfl rfl (v_fieldAddr rfl Tryz.underlying92 inf3 rfl rfl rfl rfl) ?_
  first | refine o_gn rfl rfl rfl rfl ?_ | refine o_g _ rfl rfl rfl rfl (v_ld1 rfl Tryz.underlying3 rfl rfl rfl) ?_
  first | refine o_gn rfl rfl rfl rfl ?_ | refine o_g _ rfl rfl rfl rfl (v_move rfl rfl) ?_
  first | refine o_gn rfl rfl rfl rfl ?_ | refine o_gtest rfl rfl rfl rfl (v_eql rfl rfl rfl) (fun h15 => ?_) (fun h15 => ?_)
  all_goals
   first | refine o_q _ rfl rfl rfl (v_pick_t rfl rfl rfl) ?_ | refine o_q _ rfl rfl rfl (v_pick_f rfl rfl rfl) ?_
   refine q_mv rfl rfl rfl rfl rfl ?_
   first | refine o_gn rfl rfl rfl rfl ?_ | refine o_g _ rfl rfl rfl rfl (v_fieldAddr rfl Tryz.underlying92 inf3 rfl rfl rfl rfl) ?_
   first | refine o_gn rfl rfl rfl rfl ?_ | refine o_g _ rfl rfl rfl rfl (v_ld1 rfl Tryz.underlying3 rfl rfl rfl) ?_
   first | refine o_gn rfl rfl rfl rfl ?_ | refine o_g _ rfl rfl rfl rfl (v_move rfl rfl) ?_
   first | refine o_gn rfl rfl rfl rfl ?_ | refine o_gtest rfl rfl rfl rfl (v_eql rfl rfl rfl) (fun h21 => ?_) (fun h21 => ?_)
   all_goals
    first | refine o_gn rfl rfl rfl rfl ?_ | refine o_g _ rfl rfl rfl rfl (v_move rfl rfl) ?_
    first | refine o_gn rfl rfl rfl rfl ?_ | refine o_g _ rfl rfl rfl rfl (v_fieldAddr rfl Tryz.underlying92 inf3 rfl rfl rfl rfl) ?_
    first | refine o_gn rfl rfl rfl rfl ?_ | refine o_g _ rfl rfl rfl rfl (v_ld1 rfl Tryz.underlying3 rfl rfl rfl) ?_
    first | refine o_gn rfl rfl rfl rfl ?_ | refine o_g _ rfl rfl rfl rfl (v_move rfl rfl) ?_
    first | refine o_gn rfl rfl rfl rfl ?_ | refine o_g _ rfl rfl rfl rfl (v_false (v_eql rfl rfl rfl) (by omega)) ?_ | refine o_gtest rfl rfl rfl rfl (v_eql rfl rfl rfl) (fun h26 => ?_) (fun h26 => ?_)
    all_goals
     first | refine o_gn rfl rfl rfl rfl ?_ | refine o_g _ rfl rfl rfl rfl (v_pick_t rfl rfl rfl) ?_ | refine o_g _ rfl rfl rfl rfl (v_pick_f rfl rfl rfl) ?_
     first | refine o_q _ rfl rfl rfl (v_pick_t rfl rfl rfl) ?_ | refine o_q _ rfl rfl rfl (v_pick_f rfl rfl rfl) ?_
     refine q_as rfl rfl rfl rfl rfl ?_; refine o_nil (r_then ?_); refine r_ret ?_
     first | exact r_retv2 (Rd.tmp rfl rfl) (congrArg Value.bool (decide_eq_true (show Jn w x y from by first | exact .inl ⟨by omega, by omega⟩ | exact .inr ⟨by omega, by omega⟩)).symm) SelMC.sel SubRC.sub | exact r_retv2 (Rd.tmp rfl rfl) (congrArg Value.bool (decide_eq_false (fun h => by unfold Jn at h; omega)).symm) SelMC.sel SubRC.sub
set_option maxHeartbeats 4000000 in
theorem joins1_v (w : DWay) (x y : Int) (c1 c2 : Nat) : FnV Tryz.prog 228 [.agg #[i64 w.a, i64 w.b], pt c1 0, pt c2 0] [boxF c1 3 [i64 x], boxF c2 3 [i64 y]] (.bool (decide (Jn w x y))) := by
 refine FnV.intro Tryz.call228 Tryz.func228 rfl Tryz.ntmps228 rfl ?_; intro W M Rf; refine r_seq (r_region ?_); refine o_boxA rfl rfl rfl rfl rfl (fun b3 => ?_); refine q_as rfl rfl rfl rfl rfl ?_; refine o_nil (r_then (r_seq (r_region ?_))); refine o_q _ rfl rfl rfl (v_ldW rfl Tryz.underlying92 rfl inf92 rfl rfl) ?_; refine o_q _ rfl rfl rfl (v_lf1 rfl Tryz.underlying3 rfl rfl rfl) ?_; refine o_q _ rfl rfl rfl (v_lf1 rfl Tryz.underlying3 rfl rfl rfl) ?_; refine o_q _ rfl rfl rfl (OpQ.fn (jn_v _ _ _) rfl rfl SubRC.sub) ?_; refine q_as rfl rfl rfl rfl rfl ?_; refine o_nil (r_then ?_); refine r_ret ?_; exact r_retv2 (Rd.tmp rfl rfl) rfl SelMC.sel SubRC.sub
set_option maxHeartbeats 4000000 in
theorem ways_r (p : DWay → Prop) [DecidablePred p] (xs : List DWay) (oa : Option Addr) (c : Nat) (fv : FuncId) (caps : List Value) (Rs : List Fact) (hl : xs.length ≤ 1000) (hf : ∀ k, k < xs.length → FnV Tryz.prog fv (.agg #[i64 (xs.getD k default).a, i64 (xs.getD k default).b] :: caps) Rs (.bool (decide (p (xs.getD k default))))) : FnR Tryz.prog 230 [.slice oa xs.length c, .func (.func fv) #[] caps.toArray] (rowD oa 2 (encDW) xs :: Rs) (fun v => (v = i64 (-1) ∧ ∀ j, j < xs.length → ¬ p (xs.getD j default)) ∨ ∃ k : Nat, v = i64 k ∧ k < xs.length ∧ p (xs.getD k default)) (fun _ => []) := by
 refine FnR.intro Tryz.call230 Tryz.func230 rfl Tryz.ntmps230 rfl ?_; intro W M Rf; refine r_seq (r_region ?_); refine q_as rfl rfl rfl rfl rfl ?_; refine o_nil (r_then (r_seq ?_)); refine r_seq (r_region ?_); refine q_mv rfl rfl rfl rfl rfl ?_; refine o_q _ rfl rfl rfl (v_len rfl rfl Tryz.underlying27 rfl) ?_; refine q_mv rfl rfl rfl rfl rfl ?_; refine o_nil (r_then ?_); refine r_block ?_; refine r_loop (ι := Nat) (fun k => k ≤ xs.length ∧ ∀ j, j < k → ¬ p (xs.getD j default)) (fun k => [(0, .slice oa xs.length c), (1, .func (.func fv) #[] caps.toArray), (7, i64 xs.length), (8, i64 k)]) (fun k => M) (fun k => (rowD oa 2 (encDW) xs :: Rs) ++ Rf) (fun k => xs.length - k) 0 ?_ ?_ ?_
 ·
  exact r_here (by repeat (first | exact FSub.nil | refine FSub.cons rfl ?_)) SelMC.sel SubRC.sub
 ·
  exact ⟨by omega, fun j hj => absurd hj (by omega)⟩
 ·
  rintro k hI0; refine r_seq (r_region ?_); refine o_q _ rfl rfl rfl (v_lss rfl rfl rfl) ?_; refine o_nil (r_then (r_seq ?_)); refine r_condd rfl (fun hc9 => ?_) (fun hc9 => ?_)
  ·
   refine r_skip (r_then ?_); refine r_seq (r_block ?_); refine r_seq (r_region ?_); refine q_mv rfl rfl rfl rfl rfl ?_; refine q_as rfl rfl rfl rfl rfl ?_; refine o_nil (r_then (r_seq (r_region ?_))); (iterate 3 refine q_mv rfl rfl rfl rfl rfl ?_); refine o_q _ rfl rfl rfl (v_indexAddrSn rfl Tryz.underlying27 inf92 rfl rfl rfl (by omega) rfl) ?_; refine o_q _ rfl rfl rfl (v_loadEN rfl Tryz.underlying92 rfl inf92 rfl (by omega) rfl rfl rfl) ?_; refine o_test rfl rfl rfl (OpQ.call (hf k (by omega)) rfl [] caps rfl rfl rfl SubRC.sub) (fun h16 => ?_) (fun h16 => ?_)
   all_goals
    refine o_nil (r_then ?_); refine r_cond rfl (fun hc16 => ?_) (fun hc16 => ?_)
    ·
     first
     | (exfalso; revert hc16; decide)
     |
      skip
      refine r_seq (r_region ?_); refine q_mv rfl rfl rfl rfl rfl ?_; refine q_as rfl rfl rfl rfl rfl ?_; refine o_nil (r_then ?_); refine r_ret ?_; (with_reducible refine r_in_ret ?_; refine r_then_ret ?_; refine r_then_ret ?_; refine r_in_ret ?_; refine r_then_ret ?_); exact r_retr (Rd.tmp rfl rfl) (Or.inr ⟨k, rfl, by omega, by assumption⟩) SelMC.sel SubRC.sub
    ·
     first
     | (exfalso; revert hc16; decide)
     |
      skip
      refine r_skip ?_; refine r_in_normal ?_; refine r_then ?_; refine r_region ?_; refine o_q _ rfl rfl rfl (v_add rfl rfl rfl (by omega)) ?_; refine q_mv rfl rfl rfl rfl rfl ?_; refine o_nil (r_then ?_); refine r_next (k + 1) ?_ ?_ ?_
      ·
       exact r_here (by repeat (first | exact FSub.nil | refine FSub.cons rfl ?_)) SelMC.sel SubRC.sub
      ·
       exact ⟨by omega, G.all_step hI0.2 (by assumption)⟩
      ·
       omega
  ·
   refine r_exit ?_; refine r_then_exit ?_; refine r_then_exit ?_; refine r_in_here ?_; refine r_then (r_seq (r_region ?_)); refine q_as rfl rfl rfl rfl rfl ?_; refine o_nil (r_then ?_); refine r_ret ?_; exact r_retr (Rd.tmp rfl rfl) (Or.inl ⟨rfl, fun j hj => hI0.2 j (by omega)⟩) SelMC.sel SubRC.sub
set_option maxHeartbeats 4000000 in
theorem ways_c (p : DWay → Prop) [DecidablePred p] (xs : List DWay) (oa : Option Addr) (c : Nat) (fv : FuncId) (caps : List Value) (Rs : List Fact) (hl : xs.length ≤ 1000) (hf : ∀ k, k < xs.length → FnV Tryz.prog fv (.agg #[i64 (xs.getD k default).a, i64 (xs.getD k default).b] :: caps) Rs (.bool (decide (p (xs.getD k default))))) : FnV Tryz.prog 227 [.slice oa xs.length c, .func (.func fv) #[] caps.toArray] (rowD oa 2 (encDW) xs :: Rs) (.bool (decide (∃ k, k < xs.length ∧ p (xs.getD k default)))) := by
 refine FnV.intro Tryz.call227 Tryz.func227 rfl Tryz.ntmps227 rfl ?_; intro W M Rf; refine r_seq (r_region ?_); refine q_as rfl rfl rfl rfl rfl ?_; refine o_nil (r_then (r_seq (r_region ?_))); refine q_mv rfl rfl rfl rfl rfl ?_; refine q_mv rfl rfl rfl rfl rfl ?_; refine o_fn (ways_r p xs oa c fv caps Rs hl hf) rfl rfl rfl rfl rfl SubRC.sub (fun v7 hv7 => ?_); obtain ⟨rfl, hn⟩ | ⟨k, rfl, hk, hp⟩ := hv7
 all_goals
  refine o_q _ rfl rfl rfl (v_geq rfl rfl rfl) ?_; refine q_as rfl rfl rfl rfl rfl ?_; refine o_nil (r_then ?_); refine r_ret ?_
  first
  | exact r_retv2 (Rd.tmp rfl rfl) (congrArg Value.bool ((decide_eq_false (by omega)).trans (decide_eq_false (fun ⟨k, hk, hp⟩ => hn k hk hp)).symm)) SelMC.sel SubRC.sub
  | exact r_retv2 (Rd.tmp rfl rfl) (congrArg Value.bool ((decide_eq_true (by omega)).trans (decide_eq_true ⟨k, hk, hp⟩).symm)) SelMC.sel SubRC.sub
variable (D : Dr)
set_option maxHeartbeats 4000000 in
theorem whole_v (x y : Int) (vo : Option Addr) (vc : Nat) (hl : D.ways.length ≤ 8) : FnV Tryz.prog 226 [.agg #[.slice vo D.ways.length vc], i64 x, i64 y] [rowD vo 2 encDW D.ways] (.bool (decide (JoinS D 0 x y))) := by
 refine FnV.intro Tryz.call226 Tryz.func226 rfl Tryz.ntmps226 rfl ?_; intro W M Rf; refine r_seq (r_region ?_); refine o_boxA rfl rfl rfl rfl rfl (fun b3 => ?_); refine o_box1 rfl rfl rfl rfl rfl rfl (fun b4 => ?_); refine o_box1 rfl rfl rfl rfl rfl rfl (fun b5 => ?_); refine q_as rfl rfl rfl rfl rfl ?_; refine o_nil (r_then (r_seq ?_)); refine Imp.sealB b4 ?_; refine Imp.sealB b5 ?_; refine r_region ?_; refine o_q _ rfl rfl rfl (v_fieldAddr rfl Tryz.underlying259 inf27 rfl rfl rfl rfl) ?_; refine o_q _ rfl rfl rfl (v_ld1 rfl Tryz.underlying27 rfl rfl rfl) ?_; refine o_q _ rfl rfl rfl (v_makeFunc rfl rfl rfl) ?_; refine o_q _ rfl rfl rfl (OpQ.fn (ways_c (fun w => Jn w x y) D.ways vo vc 228 [pt b4 0, pt b5 0] [boxF b4 3 [i64 x], boxF b5 3 [i64 y]] (by omega) (fun k _ => joins1_v _ x y b4 b5)) rfl rfl SubRC.sub) ?_; refine q_as rfl rfl rfl rfl rfl ?_; refine o_nil (r_then ?_); refine r_ret ?_; exact r_retv2 (Rd.tmp rfl rfl) (congrArg Value.bool (decide_eq_decide.2 joinS_0.symm)) SelMC.sel SubRC.sub
theorem bit_off {s i : Nat} : s >>> i &&& 1 = s / 2 ^ i % 2 := by rw [Nat.shiftRight_eq_div_pow, Nat.and_one_is_mod]
set_option maxHeartbeats 4000000 in
theorem some_v (s : Nat) (x y : Int) (vo : Option Addr) (vc : Nat) (hl : D.ways.length ≤ 8) (hs : s < 128) : FnV Tryz.prog 231 [.agg #[.slice vo D.ways.length vc, u64 s], i64 x, i64 y] [rowD vo 2 encDW D.ways] (.bool (decide (JoinS D s x y))) := by
 refine FnV.intro Tryz.call231 Tryz.func231 rfl Tryz.ntmps231 rfl ?_; intro W M Rf; refine r_seq (r_region ?_); refine o_boxA rfl rfl rfl rfl rfl (fun b3 => ?_); refine q_as rfl rfl rfl rfl rfl ?_; refine o_nil (r_then (r_seq ?_)); refine r_seq (r_region ?_); refine o_q _ rfl rfl rfl (v_fieldAddr rfl Tryz.underlying261 inf116 rfl rfl rfl rfl) ?_; refine o_q _ rfl rfl rfl (v_ld1 rfl Tryz.underlying116 rfl rfl rfl) ?_; refine o_q _ rfl rfl rfl (v_eql rfl rfl rfl) ?_; refine o_nil (r_then ?_); refine r_condd rfl (fun hc11 => ?_) (fun hc11 => ?_)
 ·
  refine r_seq ?_; have hs0 : s = 0 := by omega
  refine r_region ?_; refine o_q _ rfl rfl rfl (v_fieldAddr rfl Tryz.underlying261 inf259 rfl rfl rfl rfl) ?_; refine o_q _ rfl rfl rfl (v_ldN rfl Tryz.underlying259 rfl inf259 rfl rfl rfl) ?_; refine q_mv rfl rfl rfl rfl rfl ?_; refine q_mv rfl rfl rfl rfl rfl ?_; refine o_q _ rfl rfl rfl (OpQ.fn (whole_v D x y vo vc hl) rfl rfl SubRC.sub) ?_; refine q_as rfl rfl rfl rfl rfl ?_; refine o_nil (r_then ?_); refine r_ret ?_; (with_reducible refine r_then_ret ?_)
  (subst hs0; exact r_retv2 (Rd.tmp rfl rfl) rfl SelMC.sel SubRC.sub)
 ·
  refine r_skip (r_then ?_); refine r_seq ?_; refine r_seq (r_region ?_); refine o_q _ rfl rfl rfl (v_fieldAddr rfl Tryz.underlying261 inf259 rfl rfl rfl rfl) ?_; refine o_q _ rfl rfl rfl (v_fieldAddr rfl Tryz.underlying259 inf27 rfl rfl rfl rfl) ?_; refine o_q _ rfl rfl rfl (v_ld1 rfl Tryz.underlying27 rfl rfl rfl) ?_; refine o_q _ rfl rfl rfl (v_len rfl rfl Tryz.underlying27 rfl) ?_; refine q_mv rfl rfl rfl rfl rfl ?_; refine o_nil (r_then ?_); refine r_block ?_; refine r_loop (ι := Nat) (fun k => k ≤ D.ways.length ∧ ∀ j, j < k → ¬ (Off s j ∧ Jn (D.ways.getD j default) x y)) (fun k => [(1, i64 x), (2, i64 y), (3, pt b3 0), (19, .slice vo D.ways.length vc), (20, i64 D.ways.length), (21, i64 k)]) (fun k => bx b3 261 [.slice vo D.ways.length vc, u64 s] :: M) (fun k => [rowD vo 2 encDW D.ways] ++ Rf) (fun k => D.ways.length - k) 0 ?_ ?_ ?_
  ·
   exact r_here (by repeat (first | exact FSub.nil | refine FSub.cons rfl ?_)) SelMC.sel SubRC.sub
  ·
   exact ⟨Nat.zero_le _, fun j hj => absurd hj (by omega)⟩
  ·
   rintro k hI0; refine r_seq (r_region ?_); refine o_q _ rfl rfl rfl (v_lss rfl rfl rfl) ?_; refine o_nil (r_then (r_seq ?_)); refine r_condd rfl (fun hc22 => ?_) (fun hc22 => ?_)
   ·
    refine r_skip (r_then ?_); refine r_seq (r_block ?_); refine r_seq (r_region ?_); refine q_mv rfl rfl rfl rfl rfl ?_; refine o_q _ rfl rfl rfl (v_indexAddrSn rfl Tryz.underlying27 inf92 rfl rfl rfl (by omega) rfl) ?_; refine o_q _ rfl rfl rfl (v_loadEN rfl Tryz.underlying92 rfl inf92 rfl (by omega) rfl rfl rfl) ?_; refine o_alloc rfl inf92 rfl rfl rfl rfl rfl (fun b8 => ?_); refine q_as rfl rfl rfl rfl rfl ?_; refine o_st rfl inf92 rfl rfl rfl rfl rfl rfl rfl rfl ?_; refine o_nil (r_then (r_seq ?_)); refine Imp.box_to b8 [i64 (D.ways.getD k default).a, i64 (D.ways.getD k default).b] rfl ?_; refine r_region ?_; refine o_q _ rfl rfl rfl (v_fieldAddr rfl Tryz.underlying261 inf116 rfl rfl rfl rfl) ?_; refine o_q _ rfl rfl rfl (v_ld1 rfl Tryz.underlying116 rfl rfl rfl) ?_; refine q_mv rfl rfl rfl rfl rfl ?_; refine o_q _ rfl rfl rfl (v_shrU rfl rfl rfl (by omega) (by omega)) ?_; refine o_q _ rfl rfl rfl (v_cast (v := u64 (s / 2 ^ k % 2)) (v_andU rfl rfl rfl (Nat.lt_of_le_of_lt (Nat.shiftRight_le _ _) (by omega)) (by decide)) (congrArg (fun x : Nat => u64 x) bit_off)) ?_; refine o_test rfl rfl rfl (v_eql rfl rfl rfl) (fun h31 => ?_) (fun h31 => ?_)
    all_goals
     refine q_mv rfl rfl rfl rfl rfl ?_
     first | refine o_gn rfl rfl rfl rfl ?_ | refine o_g _ rfl rfl rfl rfl (v_ldW rfl Tryz.underlying92 rfl inf92 rfl rfl) ?_
     first | refine o_gn rfl rfl rfl rfl ?_ | refine o_g _ rfl rfl rfl rfl (v_move rfl rfl) ?_
     first | refine o_gn rfl rfl rfl rfl ?_ | refine o_g _ rfl rfl rfl rfl (v_move rfl rfl) ?_
     first | refine o_gn rfl rfl rfl rfl ?_ | refine o_gtest rfl rfl rfl rfl (OpQ.fn (jn_v (D.ways.getD k default) x y) rfl rfl SubRC.sub) (fun h36 => ?_) (fun h36 => ?_)
     all_goals
      first | refine o_q _ rfl rfl rfl (v_pick_t rfl rfl rfl) ?_ | refine o_q _ rfl rfl rfl (v_pick_f rfl rfl rfl) ?_
      refine o_nil (r_then ?_); refine r_cond rfl (fun hc37 => ?_) (fun hc37 => ?_)
      ·
       first
       | (exfalso; revert hc37; decide)
       |
        skip
        refine r_seq (r_region ?_); refine q_as rfl rfl rfl rfl rfl ?_; refine o_nil (r_then ?_); refine r_ret ?_; (with_reducible refine r_in_ret ?_; refine r_then_ret ?_; refine r_then_ret ?_; refine r_in_ret ?_; refine r_then_ret ?_); exact r_retv2 (Rd.tmp rfl rfl) (congrArg Value.bool (decide_eq_true (show JoinS D s x y from ⟨k, by omega, by unfold Off; omega, by assumption⟩)).symm) SelMC.sel SubRC.sub
      ·
       first
       | (exfalso; revert hc37; decide)
       |
        skip
        refine r_skip ?_; refine r_in_normal ?_; refine r_then ?_; refine r_region ?_; refine o_q _ rfl rfl rfl (v_add rfl rfl rfl (by omega)) ?_; refine q_mv rfl rfl rfl rfl rfl ?_; refine o_nil (r_then ?_); refine r_next (k + 1) ?_ ?_ ?_
        ·
         exact r_here (by repeat (first | exact FSub.nil | refine FSub.cons rfl ?_)) SelMC.sel SubRC.sub
        ·
         exact ⟨by omega, G.all_step hI0.2 (fun ⟨h1, h2⟩ => by first | exact absurd h2 (by assumption) | (unfold Off at h1; omega))⟩
        ·
         omega
   ·
    refine r_exit ?_; refine r_then_exit ?_; refine r_then_exit ?_; refine r_in_here ?_; refine r_then (r_seq (r_region ?_)); refine q_as rfl rfl rfl rfl rfl ?_; refine o_nil (r_then ?_); refine r_ret ?_; exact r_retv2 (Rd.tmp rfl rfl) (congrArg Value.bool (decide_eq_false (p := JoinS D s x y) (fun ⟨j, h1, h2, h3⟩ => hI0.2 j (by omega) ⟨h2, h3⟩)).symm) SelMC.sel SubRC.sub
set_option maxHeartbeats 4000000 in
theorem lower_v (l : L5) (x y : Nat) (hx : x < 5) (hy : y < 5) : FnV Tryz.prog 153 [v5 l, i64 (x : Int), i64 (y : Int)] [] (.bool (decide (l.at x < l.at y))) := by
 refine FnV.intro Tryz.call153 Tryz.func153 rfl Tryz.ntmps153 rfl ?_; intro W M Rf; refine r_seq (r_region ?_); refine o_boxA rfl rfl rfl rfl rfl (fun b3 => ?_); refine q_as rfl rfl rfl rfl rfl ?_; refine o_nil (r_then (r_seq ?_)); refine r_region_q mixed (by kernel_rfl) ?_; refine q_q _ rfl rfl rfl (v_move rfl rfl) ?_; refine q_q _ rfl rfl rfl (v_indexAddrAn rfl Tryz.underlying123 inf3 rfl rfl (by omega)) ?_; refine q_q _ rfl rfl rfl (v_ld1 (v := i64 (l.at x)) rfl Tryz.underlying3 rfl rfl (cells5_get hx)) ?_; refine q_q _ rfl rfl rfl (v_move rfl rfl) ?_; refine q_q _ rfl rfl rfl (v_indexAddrAn rfl Tryz.underlying123 inf3 rfl rfl (by omega)) ?_; refine q_q _ rfl rfl rfl (v_ld1 (v := i64 (l.at y)) rfl Tryz.underlying3 rfl rfl (cells5_get hy)) ?_; refine q_q _ rfl rfl rfl (v_lss rfl rfl rfl) ?_; refine q_q _ rfl rfl rfl (v_assign rfl rfl) ?_; refine q_nil ?_; refine r_then ?_; refine r_ret ?_; exact r_retv2 (Rd.tmp rfl rfl) rfl SelMC.sel SubRC.sub
end Go.Proofs.YtpndeonmmcaikaaGreat.DrW

namespace Go.Proofs.YtpndeonmmcaikaaGreat.DrW
open Go.G Foot4 Drain7
set_option maxRecDepth 1000000
attribute [local irreducible] G.ParO G.Fin
attribute [local irreducible] crs crK crP wat allL lvs sortedL
theorem laid0 : laidOutB Tryz.prog = true := by kernel_rfl
theorem keyLawL : WideMaps.KeyLaw Tryz.prog 127 := deep_law_gate laid0 (by decide +kernel) (by decide +kernel) (by kernel_rfl) (by kernel_rfl)
theorem key_ofL (l : L5) (s : Nat) (hl : InL l) (hs : s < 128) : ∃ x, keyOf Tryz.prog 127 (layV l s) = some x := by
  have h1 := Tryz.underlying127
  unfold keyOf
  rw [h1]
  have h2 : Tryz.prog.keyType 127 = true := by kernel_rfl
  have h3 : (layV l s).formed Tryz.prog 127 = true := by kernel_rfl
  have cK : Tryz.prog.cellsOf 127 = 8 := by kernel_rfl
  have cA : Tryz.prog.cellsOf 123 = 5 := by kernel_rfl
  have cU : Tryz.prog.cellsOf 116 = 1 := by kernel_rfl
  have cW : Tryz.prog.cellsOf 92 = 2 := by kernel_rfl
  have c3 : Tryz.prog.cellsOf 3 = 1 := by kernel_rfl
  have kl3 : ∀ (s : Int), (-1000 ≤ s ∧ s ≤ 1000) → ∀ d, Tryz.prog.keyLits (d + 1) 3 [i64 s] = some [.int .i64 s] := fun s hs d => by
    have hw : (Lit.int .i64 s).wf = true := by
      have m1 : IntKind.i64.min = -9223372036854775808 := rfl
      have m2 : IntKind.i64.max = 9223372036854775807 := rfl
      simp only [Lit.wf]
      simp
      omega
    unfold Program.keyLits
    rw [Tryz.underlying3]
    simp [hw]
  have klU : ∀ d, Tryz.prog.keyLits (d + 1) 116 [u64 s] = some [.int .u64 (s : Int)] := fun d => by
    have hw : (Lit.int .u64 (s : Int)).wf = true := by
      have m1 : IntKind.u64.min = 0 := rfl
      have m2 : IntKind.u64.max = 18446744073709551615 := rfl
      simp only [Lit.wf]
      simp
      omega
    unfold Program.keyLits
    rw [Tryz.underlying116]
    simp [hw]
  have h0 := hl 0 (by omega); have h4 := hl 1 (by omega); have h5 := hl 2 (by omega); have h6 := hl 3 (by omega); have h7 := hl 4 (by omega)
  simp only [L5.at] at h0 h4 h5 h6 h7
  have ka := kl3 l.a (by omega)
  have kb := kl3 l.b (by omega)
  have kc := kl3 l.c (by omega)
  have kd := kl3 l.d (by omega)
  have ke := kl3 l.e (by omega)
  have kz := kl3 0 (by omega)
  have eA : ∀ m, Tryz.prog.keyLits (m + 2) 123 [i64 l.a, i64 l.b, i64 l.c, i64 l.d, i64 l.e] = some [.int .i64 l.a, .int .i64 l.b, .int .i64 l.c, .int .i64 l.d, .int .i64 l.e] := by
    intro m
    unfold Program.keyLits
    rw [Tryz.underlying123]
    simp [cA, c3, List.range, List.range.loop, ka, kb, kc, kd, ke]
  have eW : ∀ m, Tryz.prog.keyLits (m + 2) 92 [i64 0, i64 0] = some [.int .i64 0, .int .i64 0] := by
    intro m
    unfold Program.keyLits
    rw [Tryz.underlying92]
    simp [cW, c3, kz]
  have eK : Tryz.prog.keyLits (Tryz.prog.types.size + 1) 127 (layV l s).cells.toList = some [.int .i64 l.a, .int .i64 l.b, .int .i64 l.c, .int .i64 l.d, .int .i64 l.e, .int .u64 (s : Int), .int .i64 0, .int .i64 0] := by
    have hsz : Tryz.prog.types.size + 1 = 379 + 3 := by kernel_rfl
    rw [hsz]
    unfold Program.keyLits
    rw [Tryz.underlying127]
    simp [cK, cA, cU, cW, c3, Value.cells, eA, eW, klU]
  rw [eK, h2, h3]
  exact ⟨_, rfl⟩
theorem layV_inj {l l' : L5} {s s' : Nat} (h : layV l s = layV l' s') : l = l' ∧ s = s' := by
  have h2 : [i64 l.a, i64 l.b, i64 l.c, i64 l.d, i64 l.e, u64 s, i64 0, i64 0] = [i64 l'.a, i64 l'.b, i64 l'.c, i64 l'.d, i64 l'.e, u64 s', i64 0, i64 0] := congrArg Array.toList (Value.agg.inj h)
  simp only [List.cons.injEq, Value.int.injEq, true_and, and_true] at h2
  obtain ⟨a, b, c, d, e, f⟩ := h2
  refine ⟨?_, by omega⟩
  cases l; cases l'
  simp only at a b c d e
  subst a b c d e; rfl
def entC (D : Dr) (G : Cont) : Fact := fun V => ∀ l s v, G (layV l s) = some v → ∃ oa c, v = .slice oa D.banks.length c ∧ rowD oa 1 encI (crs D l s) V
theorem entC_none (D : Dr) (V : View) : entC D (fun _ => none) V := fun l s v h => by cases h
theorem entC_put {D : Dr} {G : Cont} {V : View} {l : L5} {s : Nat} {oa : Option Addr} {c : Nat} (h : entC D G V) (hr : rowD oa 1 encI (crs D l s) V) : entC D (G.put (layV l s) (.slice oa D.banks.length c)) V := by
  intro l' s' v hv
  by_cases hk : layV l' s' = layV l s
  · obtain ⟨rfl, rfl⟩ := layV_inj hk
    rw [Cont.put_eq] at hv
    exact ⟨oa, c, (Option.some.inj hv).symm, hr⟩
  · rw [Cont.put_ne _ _ hk] at hv
    exact h l' s' v hv
theorem Imp.entC {D : Dr} {G : Cont} {l : L5} {s : Nat} {v : Value} {W : World} {n : Nat} {Df : List Deferred} {L : Tm} {M : List Res} {R : List Fact} {X : Act → World → Prop} [hm : InR (DrW.entC D G) R] (hG : G (layV l s) = some v)
    (h : ∀ oa c, v = .slice oa D.banks.length c → Imp W n Df L M (rowD oa 1 encI (crs D l s) :: R) X) : Imp W n Df L M R X := by
  refine Imp.fact hm.mem (fun ⟨V0, hV⟩ => ?_)
  obtain ⟨oa, c, rfl, _⟩ := hV l s v hG
  refine (h oa c rfl).derive (fun V hR => ?_)
  obtain ⟨oa', c', h1, h2⟩ := hR _ hm.mem l s _ hG
  simp only [Value.slice.injEq, true_and] at h1
  rw [h1.1]; exact h2
theorem Imp.boxOwnN {W : World} {n : Nat} {Df : List Deferred} {L : Tm} {M : List Res} {R : List Fact} {α : Type} {enc : α → List Value} {sz : Nat} {T : TypeId} {xs : List α} {b n0 : Nat} {M' : List Res} {X : Act → World → Prop} (hn : xs.length = n0) [hd : HasOwn (.slice (some ⟨b, 0, none⟩) n0 n0) M T sz enc xs M']
    (h : Imp W n Df L (bx b T (xs.flatMap enc) :: M') R X) : Imp W n Df L M R X := by
  subst hn
  exact Imp.boxOwn h
theorem crK_0 {D : Dr} {l : L5} {s x : Nat} : crK D l s x 0 = -1 := by rw [crK]
theorem encI_len (x : Int) : (encI x).length = 1 := rfl
theorem boxI_get {c : List Int} {j : Nat} (h : j < c.length) : (c.flatMap encI)[j * 1]? = some (i64 (c.getD j default)) := by
  have h1 := flat_get (sp := []) encI_len (xs := c) h (show 0 < 1 by decide)
  rw [List.append_nil] at h1
  exact h1
theorem boxI_set {c : List Int} {j : Nat} {x : Int} (h : j < c.length) : splice (c.flatMap encI) (j * 1) [i64 x] = (c.set j x).flatMap encI := by
  have h1 := flat_set (y := x) (sp := []) encI_len c j 0 h (by decide) rfl
  rw [List.append_nil, List.append_nil] at h1
  exact h1
theorem boxI_ble {c : List Int} {j : Nat} (h : j < c.length) : Nat.ble (j * 1 + 1) (c.flatMap encI).length = true := by
  refine Nat.ble_eq_true_of_le ?_
  rw [flat_len encI_len]; omega
variable (D : Dr) (bo wo ro so : Option Addr) (bc wc rc sc : Nat) (bb mb : Nat)
theorem lower_i (l : L5) (x : Nat) (y : Int) (hx : x < 5) (hy : 0 ≤ y ∧ y < 5) : FnV Tryz.prog 153 [v5 l, i64 (x : Int), i64 y] [] (.bool (decide (l.at x < l.at y.toNat))) := by
  obtain ⟨k, rfl⟩ : ∃ k : Nat, y = k := ⟨y.toNat, by omega⟩
  exact lower_v l x k hx (by omega)
theorem someM : HasM Tryz.prog 261 "bogworks/drain.joins" 231 := HasM.mk' inf261 (by kernel_rfl) Tryz.underlying261 rfl
set_option maxHeartbeats 4000000 in
theorem course_y (hg : GoodD D) (l : L5) (hl : InL l) (s : Nat) (hs : s < 128) (G : Cont) (v0 : Value) (hG : G (layV l s) = some v0) : FnS Tryz.prog 112 [pt bb 0, layV l s] [mapG Tryz.prog 127 mb G] [entC D G, boxF bb 181 (cellsG D bo wo ro so bc wc rc sc mb), rowD bo 4 encDB D.banks, rowD wo 2 encDW D.ways, rowD ro 3 encR D.rights] (fun e M' R' => ∃ x : Cont × Option Addr × Nat, e = .returned (.slice x.2.1 D.banks.length x.2.2) ∧ True ∧ M' = [mapG Tryz.prog 127 mb x.1] ∧ R' = [entC D x.1, rowD x.2.1 1 encI (crs D l s)]) := by
 obtain ⟨kl, hkl⟩ := key_ofL l s hl hs; refine FnS.intro1 Tryz.call112 Tryz.func112 rfl Tryz.ntmps112 rfl ?_; intro W M Rf; refine Imp.entC (D := D) hG (fun oa0 c0 hv0 => ?_); subst hv0; refine r_seq (r_region ?_); refine o_boxA rfl rfl rfl rfl rfl (fun b3 => ?_); refine q_as rfl rfl rfl rfl rfl ?_; refine o_nil (r_then (r_seq ?_)); refine r_seq ?_; refine r_region_q mixed (by kernel_rfl) ?_; refine q_q _ rfl rfl rfl (v_move rfl rfl) ?_; refine q_q _ rfl rfl rfl (v_nilCheck rfl rfl) ?_; refine q_q _ rfl rfl rfl (v_fieldAddr rfl Tryz.underlying181 inf179 rfl rfl rfl rfl) ?_; refine q_q _ rfl rfl rfl (v_lf1 rfl Tryz.underlying179 rfl rfl rfl) ?_; refine q_q _ rfl rfl rfl (v_ldW rfl Tryz.underlying127 rfl inf127 rfl rfl) ?_; refine q_q _ rfl rfl rfl (v_cast (v := .tuple #[(.slice oa0 D.banks.length c0), .bool true]) (v_lookG G (some (.slice oa0 D.banks.length c0)) keyLawL hkl rfl Tryz.underlying179 inf191 (z := (.slice none 0 0)) rfl hG rfl rfl) rfl) ?_; refine q_q _ rfl rfl rfl (v_move rfl rfl) ?_; refine q_q _ rfl rfl rfl (v_extract rfl rfl rfl) ?_; refine q_q _ rfl rfl rfl (v_extract rfl rfl rfl) ?_; refine q_q _ rfl rfl rfl (v_assign rfl rfl) ?_; refine q_q _ rfl rfl rfl (v_assign rfl rfl) ?_; refine q_nil ?_; refine r_then (r_seq (r_region ?_)); refine q_mv rfl rfl rfl rfl rfl ?_; refine o_nil (r_then ?_); refine r_cond rfl (fun hc22 => ?_) (fun hc22 => ?_)
 ·
  refine r_seq (r_region ?_); refine q_mv rfl rfl rfl rfl rfl ?_; refine q_as rfl rfl rfl rfl rfl ?_; refine o_nil (r_then ?_); refine r_ret ?_; (with_reducible refine r_then_ret ?_); exact r_rete [mapG Tryz.prog 127 mb G] [entC D G, rowD oa0 1 encI (crs D l s)] (Rd.tmp rfl rfl) ⟨(G, oa0, c0), rfl, trivial, rfl, rfl⟩ SelMC.sel SubRC.sub
 ·
  (exfalso; revert hc22; decide)
set_option maxHeartbeats 4000000 in
theorem course_n (hg : GoodD D) (l : L5) (hl : InL l) (s : Nat) (hs : s < 128) (G : Cont) (hG : G (layV l s) = none) : FnS Tryz.prog 112 [pt bb 0, layV l s] [mapG Tryz.prog 127 mb G] [entC D G, boxF bb 181 (cellsG D bo wo ro so bc wc rc sc mb), rowD bo 4 encDB D.banks, rowD wo 2 encDW D.ways, rowD ro 3 encR D.rights] (fun e M' R' => ∃ x : Cont × Option Addr × Nat, e = .returned (.slice x.2.1 D.banks.length x.2.2) ∧ True ∧ M' = [mapG Tryz.prog 127 mb x.1] ∧ R' = [entC D x.1, rowD x.2.1 1 encI (crs D l s)]) := by
 obtain ⟨kl, hkl⟩ := key_ofL l s hl hs; refine FnS.intro1 Tryz.call112 Tryz.func112 rfl Tryz.ntmps112 rfl ?_; intro W M Rf; refine r_seq (r_region ?_); refine o_boxA rfl rfl rfl rfl rfl (fun b3 => ?_); refine q_as rfl rfl rfl rfl rfl ?_; refine o_nil (r_then (r_seq ?_)); refine r_seq ?_; have hw7 := hg.2.1; have hb5 := hg.1.2; refine r_region_q mixed (by kernel_rfl) ?_; refine q_q _ rfl rfl rfl (v_move rfl rfl) ?_; refine q_q _ rfl rfl rfl (v_nilCheck rfl rfl) ?_; refine q_q _ rfl rfl rfl (v_fieldAddr rfl Tryz.underlying181 inf179 rfl rfl rfl rfl) ?_; refine q_q _ rfl rfl rfl (v_lf1 rfl Tryz.underlying179 rfl rfl rfl) ?_; refine q_q _ rfl rfl rfl (v_ldW rfl Tryz.underlying127 rfl inf127 rfl rfl) ?_; refine q_q _ rfl rfl rfl (v_cast (v := .tuple #[(.slice none 0 0), .bool false]) (v_lookG G none keyLawL hkl rfl Tryz.underlying179 inf191 (z := (.slice none 0 0)) rfl hG rfl rfl) rfl) ?_; refine q_q _ rfl rfl rfl (v_move rfl rfl) ?_; refine q_q _ rfl rfl rfl (v_extract rfl rfl rfl) ?_; refine q_q _ rfl rfl rfl (v_extract rfl rfl rfl) ?_; refine q_q _ rfl rfl rfl (v_assign rfl rfl) ?_; refine q_q _ rfl rfl rfl (v_assign rfl rfl) ?_; refine q_nil ?_; refine r_then (r_seq (r_region ?_)); refine q_mv rfl rfl rfl rfl rfl ?_; refine o_nil (r_then ?_); refine r_cond rfl (fun hc22 => ?_) (fun hc22 => ?_)
 ·
  (exfalso; revert hc22; decide)
 ·
  refine r_skip (r_then ?_); refine r_seq ?_; refine r_par' 13 mixed (by kernel_rfl) (by rfl) ?_; refine p_q _ rfl rfl rfl (fun _ _ => v_move rfl rfl) ?_; refine p_q _ rfl rfl rfl (fun _ _ => v_nilCheck rfl rfl) ?_; refine p_q _ rfl rfl rfl (fun _ _ => v_fieldAddr rfl Tryz.underlying181 inf30 rfl rfl rfl rfl) ?_; refine p_q _ rfl rfl rfl (fun _ _ => v_fieldAddr rfl Tryz.underlying30 inf27 rfl rfl rfl rfl) ?_; refine p_q _ rfl rfl rfl (fun _ _ => v_lf1 rfl Tryz.underlying27 rfl rfl rfl) ?_; refine p_q _ rfl rfl rfl (fun _ _ => v_len rfl rfl Tryz.underlying27 rfl) ?_; refine p_q _ rfl rfl rfl (fun _ _ => v_move rfl rfl) ?_; refine p_q _ rfl rfl rfl (fun _ _ => v_nilCheck rfl rfl) ?_; refine p_q _ rfl rfl rfl (fun _ _ => v_fieldAddr rfl Tryz.underlying181 inf30 rfl rfl rfl rfl) ?_; refine p_q _ rfl rfl rfl (fun _ _ => v_fieldAddr rfl Tryz.underlying30 inf27 rfl rfl rfl rfl) ?_; refine p_q _ rfl rfl rfl (fun _ _ => v_lf1 rfl Tryz.underlying27 rfl rfl rfl) ?_; refine p_q _ rfl rfl rfl (fun _ _ => v_len rfl rfl Tryz.underlying27 rfl) ?_; refine p_q _ rfl rfl rfl (fun _ _ => v_cast (v := i64 ((D.ways.length + 1 : Nat) : Int)) (v_add rfl rfl rfl (by omega)) (congrArg (Value.int .i64) (by omega))) ?_; refine p_nil2 (by simp only [List.nil_append, List.cons_append]; rfl) rfl ?_; (iterate 13 refine f_q rfl ?_); refine f_nil ?_; refine o_make (l := D.ways.length) (c := D.ways.length + 1) (enc := encDW) (⟨0, 0⟩ : DWay) rfl Tryz.underlying27 inf92 rfl rfl rfl rfl rfl rfl rfl rfl rfl (Nat.le_succ _) ⟨by omega, by decide⟩ (fun b37 => ?_); refine q_as rfl rfl rfl rfl rfl ?_; refine o_nil (r_then (r_seq (r_region ?_))); refine q_mv rfl rfl rfl rfl rfl ?_; refine q_mv rfl rfl rfl rfl rfl ?_; refine o_q _ rfl rfl rfl (v_nilCheck rfl rfl) ?_; refine o_q _ rfl rfl rfl (v_fieldAddr rfl Tryz.underlying181 inf30 rfl rfl rfl rfl) ?_; refine o_q _ rfl rfl rfl (v_fieldAddr rfl Tryz.underlying30 inf27 rfl rfl rfl rfl) ?_; refine o_q _ rfl rfl rfl (v_lf1 rfl Tryz.underlying27 rfl rfl rfl) ?_; refine o_copy rfl Tryz.underlying27 inf92 rfl rfl rfl rfl encDW_len (fun _ => rfl) rfl rfl rfl (by rw [List.length_replicate]) ?_; refine o_nil (r_then (r_seq ?_)); refine r_seq ?_; refine Imp.settleS (.slice (some ⟨b37, 0, none⟩) D.ways.length (D.ways.length + 1)) encDW_len (fun oa7 cp7 hv7 => ?_); obtain ⟨rfl, rfl⟩ : oa7 = some ⟨b37, 0, none⟩ ∧ cp7 = D.ways.length + 1 := by (simp only [Value.slice.injEq, true_and] at hv7; exact ⟨hv7.1.symm, hv7.2.symm⟩)
  refine r_region ?_; refine o_q _ rfl rfl rfl (v_fieldAddr rfl Tryz.underlying127 inf92 rfl rfl rfl rfl) ?_; refine o_q _ rfl rfl rfl (v_fieldAddr rfl Tryz.underlying92 inf3 rfl rfl rfl rfl) ?_; refine o_q _ rfl rfl rfl (v_ld1 rfl Tryz.underlying3 rfl rfl rfl) ?_; refine o_q _ rfl rfl rfl (v_fieldAddr rfl Tryz.underlying127 inf92 rfl rfl rfl rfl) ?_; refine o_q _ rfl rfl rfl (v_fieldAddr rfl Tryz.underlying92 inf3 rfl rfl rfl rfl) ?_; refine o_q _ rfl rfl rfl (v_ld1 rfl Tryz.underlying3 rfl rfl rfl) ?_; refine o_q _ rfl rfl rfl (v_neq rfl rfl rfl) ?_; refine o_nil (r_then ?_); refine r_condd rfl (fun hc51 => ?_) (fun hc51 => ?_)
  ·
   (exfalso; revert hc51; decide)
  ·
   refine r_skip (r_then (r_seq (r_region ?_))); refine q_mv rfl rfl rfl rfl rfl ?_; refine o_q _ rfl rfl rfl (v_bS rfl Tryz.underlying259 inf259 plt259 rfl rfl rfl (by repeat (first | exact trivial | refine ⟨rfl, ?_⟩)) (by rfl)) ?_; refine o_q _ rfl rfl rfl (v_fieldAddr rfl Tryz.underlying127 inf116 rfl rfl rfl rfl) ?_; refine o_q _ rfl rfl rfl (v_ld1 rfl Tryz.underlying116 rfl rfl rfl) ?_; refine o_q _ rfl rfl rfl (v_bS rfl Tryz.underlying261 inf261 plt261 rfl rfl rfl (by repeat (first | exact trivial | refine ⟨rfl, ?_⟩)) (by rfl)) ?_; refine o_q _ rfl rfl rfl (v_makeIface rfl Tryz.underlying261 rfl rfl) ?_; refine q_as rfl rfl rfl rfl rfl ?_; refine o_nil (r_then (r_seq (r_region ?_))); refine o_q _ rfl rfl rfl (v_fieldAddr rfl Tryz.underlying127 inf123 rfl rfl rfl rfl) ?_; refine o_q _ rfl rfl rfl (v_ldN (us := [i64 l.a, i64 l.b, i64 l.c, i64 l.d, i64 l.e]) rfl Tryz.underlying123 rfl inf123 rfl rfl rfl) ?_; refine o_q _ rfl rfl rfl (v_makeFunc rfl rfl rfl) ?_; refine q_as rfl rfl rfl rfl rfl ?_; refine o_nil (r_then (r_seq (r_region ?_))); refine q_mv rfl rfl rfl rfl rfl ?_; refine o_q _ rfl rfl rfl (v_nilCheck rfl rfl) ?_; refine o_q _ rfl rfl rfl (v_fieldAddr rfl Tryz.underlying181 inf30 rfl rfl rfl rfl) ?_; refine o_q _ rfl rfl rfl (v_fieldAddr rfl Tryz.underlying30 inf26 rfl rfl rfl rfl) ?_; refine o_q _ rfl rfl rfl (v_lf1 rfl Tryz.underlying26 rfl rfl rfl) ?_; refine o_q _ rfl rfl rfl (v_len rfl rfl Tryz.underlying26 rfl) ?_; refine o_make (enc := encI) (0 : Int) rfl Tryz.underlying191 inf3 rfl rfl rfl rfl rfl rfl rfl rfl rfl (Nat.le_refl _) ⟨by omega, by decide⟩ (fun b72 => ?_); refine q_as rfl rfl rfl rfl rfl ?_; refine o_nil (r_then (r_seq ?_)); refine r_seq ?_; refine Imp.own_to (.slice (some ⟨b72, 0, none⟩) D.banks.length D.banks.length) (crP D l s 0 0) crP_zero.symm ?_; refine Imp.boxOwnN (n0 := D.banks.length) (xs := crP D l s 0 0) (b := b72) (crP_len D l s 0 0) ?_; refine r_region ?_; refine q_mv rfl rfl rfl rfl rfl ?_; refine o_q _ rfl rfl rfl (v_len rfl rfl Tryz.underlying191 rfl) ?_; refine q_mv rfl rfl rfl rfl rfl ?_; refine o_nil (r_then ?_); refine r_block ?_
   refine r_loop (ι := Nat) (fun x => x ≤ D.banks.length) (fun x => [(0, pt bb 0), (3, pt b3 0), (8, (.iface 261 (.agg #[.slice (some ⟨b37, 0, none⟩) D.ways.length (D.ways.length + 1), u64 s]))), (9, .func (.func 153) #[v5 l] #[]), (10, .slice (some ⟨b72, 0, none⟩) D.banks.length D.banks.length), (74, i64 (D.banks.length : Int)), (75, i64 (x : Int))]) (fun x => bx b72 3 ((crP D l s x 0).flatMap encI) :: bx b3 127 [i64 l.a, i64 l.b, i64 l.c, i64 l.d, i64 l.e, u64 s, i64 0, i64 0] :: mapG Tryz.prog 127 mb G :: M) (fun x => rowD (some ⟨b37, 0, none⟩) 2 encDW D.ways :: ([entC D G, boxF bb 181 (cellsG D bo wo ro so bc wc rc sc mb), rowD bo 4 encDB D.banks, rowD wo 2 encDW D.ways, rowD ro 3 encR D.rights] ++ Rf)) (fun x => D.banks.length - x) 0 ?_ ?_ ?_
   ·
    exact r_here (by repeat (first | exact FSub.nil | refine FSub.cons rfl ?_)) SelMC.sel SubRC.sub
   ·
    omega
   ·
    rintro x hI0; refine r_seq (r_region ?_); refine o_q _ rfl rfl rfl (v_lss rfl rfl rfl) ?_; refine o_nil (r_then (r_seq ?_)); refine r_condd rfl (fun hc76 => ?_) (fun hc76 => ?_)
    ·
     refine r_skip (r_then ?_); refine r_seq (r_block ?_); refine r_seq (r_region ?_); refine q_mv rfl rfl rfl rfl rfl ?_; refine q_as rfl rfl rfl rfl rfl ?_; refine o_nil (r_then (r_seq (r_region ?_))); refine q_mv rfl rfl rfl rfl rfl ?_; refine q_mv rfl rfl rfl rfl rfl ?_; refine o_q _ rfl rfl rfl (v_indexAddrB rfl Tryz.underlying191 inf3 rfl rfl (by omega)) ?_; refine o_st rfl inf3 rfl rfl rfl rfl rfl rfl rfl (boxI_ble (by rw [crP_len]; omega)) ?_; refine o_nil (r_then (r_seq ?_)); refine Imp.box_to b72 ((crP D l s x (crK D l s x 0)).flatMap encI) (by rw [crK_0]; exact (boxI_set (j := x) (x := -1) (by rw [crP_len]; omega)).trans (congrArg (List.flatMap encI) crP_set)) ?_; refine r_region ?_; refine q_mv rfl rfl rfl rfl rfl ?_; refine o_q _ rfl rfl rfl (v_len rfl rfl Tryz.underlying191 rfl) ?_; refine q_mv rfl rfl rfl rfl rfl ?_; refine o_nil (r_then ?_); refine r_block ?_; refine r_loop (ι := Nat) (fun k => k ≤ D.banks.length) (fun k => [(0, pt bb 0), (3, pt b3 0), (8, (.iface 261 (.agg #[.slice (some ⟨b37, 0, none⟩) D.ways.length (D.ways.length + 1), u64 s]))), (9, .func (.func 153) #[v5 l] #[]), (10, .slice (some ⟨b72, 0, none⟩) D.banks.length D.banks.length), (11, i64 (x : Int)), (74, i64 (D.banks.length : Int)), (75, i64 (x : Int)), (82, i64 (D.banks.length : Int)), (83, i64 (k : Int))]) (fun k => bx b72 3 ((crP D l s x (crK D l s x k)).flatMap encI) :: bx b3 127 [i64 l.a, i64 l.b, i64 l.c, i64 l.d, i64 l.e, u64 s, i64 0, i64 0] :: mapG Tryz.prog 127 mb G :: M) (fun k => rowD (some ⟨b37, 0, none⟩) 2 encDW D.ways :: ([entC D G, boxF bb 181 (cellsG D bo wo ro so bc wc rc sc mb), rowD bo 4 encDB D.banks, rowD wo 2 encDW D.ways, rowD ro 3 encR D.rights] ++ Rf)) (fun k => D.banks.length - k) 0 ?_ ?_ ?_
     ·
      exact r_here (by repeat (first | exact FSub.nil | refine FSub.cons rfl ?_)) SelMC.sel SubRC.sub
     ·
      omega
     ·
      rintro k hI1; refine r_seq (r_region ?_); refine o_q _ rfl rfl rfl (v_lss rfl rfl rfl) ?_; refine o_nil (r_then (r_seq ?_)); refine r_condd rfl (fun hc84 => ?_) (fun hc84 => ?_)
      ·
       refine r_skip (r_then ?_); refine r_seq (r_block ?_); refine r_seq (r_region ?_); refine q_mv rfl rfl rfl rfl rfl ?_; refine q_as rfl rfl rfl rfl rfl ?_; refine o_nil (r_then (r_seq ?_)); have hcb := crK_bd (D := D) (l := l) (s := s) (x := x) k; refine r_region ?_; (iterate 3 refine q_mv rfl rfl rfl rfl rfl ?_); refine o_test rfl rfl rfl (OpQ.invoke (some_v D s x k (some ⟨b37, 0, none⟩) (D.ways.length + 1) (by omega) hs) someM rfl rfl rfl rfl SubRC.sub) (fun h89 => ?_) (fun h89 => ?_)
       all_goals
        refine q_mv rfl rfl rfl rfl rfl ?_
        first | refine o_gn rfl rfl rfl rfl ?_ | refine o_g _ rfl rfl rfl rfl (v_move rfl rfl) ?_
        first | refine o_gn rfl rfl rfl rfl ?_ | refine o_g _ rfl rfl rfl rfl (v_move rfl rfl) ?_
        first | refine o_gn rfl rfl rfl rfl ?_ | refine o_g _ rfl rfl rfl rfl (v_move rfl rfl) ?_
        first | refine o_gn rfl rfl rfl rfl ?_ | refine o_gtest rfl rfl rfl rfl (OpQ.call (lower_v l k x (by omega) (by omega)) rfl [v5 l] [] rfl rfl rfl SubRC.sub) (fun h94 => ?_) (fun h94 => ?_)
        all_goals
         first | refine o_q _ rfl rfl rfl (v_pick_t rfl rfl rfl) ?_ | refine o_q _ rfl rfl rfl (v_pick_f rfl rfl rfl) ?_
         refine q_mv rfl rfl rfl rfl rfl ?_
         first | refine o_gn rfl rfl rfl rfl ?_ | refine o_g _ rfl rfl rfl rfl (v_move rfl rfl) ?_
         first | refine o_gn rfl rfl rfl rfl ?_ | refine o_g _ rfl rfl rfl rfl (v_move rfl rfl) ?_
         first | refine o_gn rfl rfl rfl rfl ?_ | refine o_g _ rfl rfl rfl rfl (v_indexAddrB rfl Tryz.underlying191 inf3 rfl rfl (by omega)) ?_
         first | refine o_gn rfl rfl rfl rfl ?_ | refine o_g _ rfl rfl rfl rfl (v_cast (v := i64 (crK D l s x k)) (v_ld1 rfl Tryz.underlying3 rfl rfl (boxI_get (by rw [crP_len]; omega))) (congrArg (Value.int .i64) (crP_get (by omega)))) ?_
         first | refine o_gn rfl rfl rfl rfl ?_ | refine o_gtest rfl rfl rfl rfl (v_eql rfl rfl rfl) (fun h101 => ?_) (fun h101 => ?_)
         all_goals
          first | refine o_gn rfl rfl rfl rfl ?_ | refine o_g _ rfl rfl rfl rfl (v_move rfl rfl) ?_
          first | refine o_gn rfl rfl rfl rfl ?_ | refine o_g _ rfl rfl rfl rfl (v_move rfl rfl) ?_
          first | refine o_gn rfl rfl rfl rfl ?_ | refine o_g _ rfl rfl rfl rfl (v_move rfl rfl) ?_
          first | refine o_gn rfl rfl rfl rfl ?_ | refine o_g _ rfl rfl rfl rfl (v_move rfl rfl) ?_
          first | refine o_gn rfl rfl rfl rfl ?_ | refine o_g _ rfl rfl rfl rfl (v_move rfl rfl) ?_
          first | refine o_gn rfl rfl rfl rfl ?_ | refine o_g _ rfl rfl rfl rfl (v_indexAddrB rfl Tryz.underlying191 inf3 rfl rfl (by omega)) ?_
          first | refine o_gn rfl rfl rfl rfl ?_ | refine o_g _ rfl rfl rfl rfl (v_cast (v := i64 (crK D l s x k)) (v_ld1 rfl Tryz.underlying3 rfl rfl (boxI_get (by rw [crP_len]; omega))) (congrArg (Value.int .i64) (crP_get (by omega)))) ?_
          first | refine o_gn rfl rfl rfl rfl ?_ | refine o_gtest rfl rfl rfl rfl (OpQ.call (lower_i l k (crK D l s x k) (by omega) (by omega)) rfl [v5 l] [] rfl rfl rfl SubRC.sub) (fun h109 => ?_) (fun h109 => ?_)
          all_goals
           first | refine o_gn rfl rfl rfl rfl ?_ | refine o_g _ rfl rfl rfl rfl (v_pick_t rfl rfl rfl) ?_ | refine o_g _ rfl rfl rfl rfl (v_pick_f rfl rfl rfl) ?_
           first | refine o_q _ rfl rfl rfl (v_pick_t rfl rfl rfl) ?_ | refine o_q _ rfl rfl rfl (v_pick_f rfl rfl rfl) ?_
           refine o_nil (r_then ?_); refine r_cond rfl (fun hc111 => ?_) (fun hc111 => ?_)
           ·
            first
            | (exfalso; revert hc111; decide)
            |
             skip
             refine r_region ?_; (iterate 3 refine q_mv rfl rfl rfl rfl rfl ?_); refine o_q _ rfl rfl rfl (v_indexAddrB rfl Tryz.underlying191 inf3 rfl rfl (by omega)) ?_; refine o_st rfl inf3 rfl rfl rfl rfl rfl rfl rfl (boxI_ble (by rw [crP_len]; omega)) ?_; refine o_nil ?_; refine r_in_normal ?_; refine r_then ?_; refine Imp.box_to b72 ((crP D l s x (crK D l s x (k + 1))).flatMap encI) (by first | (rw [crK_y ⟨by assumption, by assumption, .inl (by omega)⟩]; exact (boxI_set (j := x) (x := (k : Int)) (by rw [crP_len]; omega)).trans (congrArg (List.flatMap encI) crP_set)) | (rw [crK_y ⟨by assumption, by assumption, .inr (by assumption)⟩]; exact (boxI_set (j := x) (x := (k : Int)) (by rw [crP_len]; omega)).trans (congrArg (List.flatMap encI) crP_set)) | (rw [crK_n (fun h => by obtain ⟨h1, h2, h3⟩ := h; first | exact absurd h1 (by assumption) | exact absurd h2 (by assumption) | exact h3.elim (fun h => by omega) (fun h => absurd h (by assumption)))])) ?_; refine r_region ?_; refine o_q _ rfl rfl rfl (v_add rfl rfl rfl (by omega)) ?_; refine q_mv rfl rfl rfl rfl rfl ?_; refine o_nil (r_then ?_); refine r_next (k + 1) ?_ ?_ ?_
             ·
              exact r_here (by repeat (first | exact FSub.nil | refine FSub.cons rfl ?_)) SelMC.sel SubRC.sub
             ·
              omega
             ·
              omega
           ·
            first
            | (exfalso; revert hc111; decide)
            |
             skip
             refine r_skip ?_; refine r_in_normal ?_; refine r_then ?_; refine Imp.box_to b72 ((crP D l s x (crK D l s x (k + 1))).flatMap encI) (by first | (rw [crK_y ⟨by assumption, by assumption, .inl (by omega)⟩]; exact (boxI_set (j := x) (x := (k : Int)) (by rw [crP_len]; omega)).trans (congrArg (List.flatMap encI) crP_set)) | (rw [crK_y ⟨by assumption, by assumption, .inr (by assumption)⟩]; exact (boxI_set (j := x) (x := (k : Int)) (by rw [crP_len]; omega)).trans (congrArg (List.flatMap encI) crP_set)) | (rw [crK_n (fun h => by obtain ⟨h1, h2, h3⟩ := h; first | exact absurd h1 (by assumption) | exact absurd h2 (by assumption) | exact h3.elim (fun h => by omega) (fun h => absurd h (by assumption)))])) ?_; refine r_region ?_; refine o_q _ rfl rfl rfl (v_add rfl rfl rfl (by omega)) ?_; refine q_mv rfl rfl rfl rfl rfl ?_; refine o_nil (r_then ?_); refine r_next (k + 1) ?_ ?_ ?_
             ·
              exact r_here (by repeat (first | exact FSub.nil | refine FSub.cons rfl ?_)) SelMC.sel SubRC.sub
             ·
              omega
             ·
              omega
      ·
       refine r_exit ?_; refine r_then_exit ?_; refine r_then_exit ?_; refine r_in_here ?_; refine r_in_normal ?_; refine r_then ?_; refine r_region ?_; refine o_q _ rfl rfl rfl (v_add rfl rfl rfl (by omega)) ?_; refine q_mv rfl rfl rfl rfl rfl ?_; refine o_nil (r_then ?_); refine r_next (x + 1) ?_ ?_ ?_
       ·
        refine Imp.box_to b72 ((crP D l s (x + 1) 0).flatMap encI) (by rw [← crP_step, show k = D.banks.length from by omega]) ?_; exact r_here (by repeat (first | exact FSub.nil | refine FSub.cons rfl ?_)) SelMC.sel SubRC.sub
       ·
        omega
       ·
        omega
    ·
     refine r_exit ?_; refine r_then_exit ?_; refine r_then_exit ?_; refine r_in_here ?_; refine r_then (r_seq ?_); obtain rfl : x = D.banks.length := by omega
     refine Imp.box_to b72 ((crs D l s).flatMap encI) (by rw [crP_end]) ?_; refine Imp.sealB b72 ?_; refine Imp.rowN (b := b72) (crs D l s) encI_len rfl ?_; refine r_par' 6 mixed (by kernel_rfl) (by rfl) ?_; refine p_q _ rfl rfl rfl (fun _ _ => v_move rfl rfl) ?_; refine p_q _ rfl rfl rfl (fun _ _ => v_nilCheck rfl rfl) ?_; refine p_q _ rfl rfl rfl (fun _ _ => v_fieldAddr rfl Tryz.underlying181 inf179 rfl rfl rfl rfl) ?_; refine p_q _ rfl rfl rfl (fun _ _ => v_lf1 rfl Tryz.underlying179 rfl rfl rfl) ?_; refine p_q _ rfl rfl rfl (fun _ _ => v_ldW rfl Tryz.underlying127 rfl inf127 rfl rfl) ?_; refine p_q _ rfl rfl rfl (fun _ _ => v_move rfl rfl) ?_; refine p_nil2 (by simp only [List.nil_append, List.cons_append]; rfl) rfl ?_; (iterate 6 refine f_q rfl ?_); refine f_nil ?_; refine o_mapUpdG (G := G) keyLawL hkl rfl Tryz.underlying179 rfl rfl rfl rfl rfl ?_; refine o_nil (r_then (r_seq ?_)); refine Imp.derive (ψ := entC D (G.put (layV l s) (.slice (some ⟨b72, 0, none⟩) D.banks.length D.banks.length))) ?_ (fun V hV => entC_put (hV _ (InR.mem (φ := entC D G))) (hV _ (InR.mem (φ := rowD (some ⟨b72, 0, none⟩) 1 encI (crs D l s))))); refine r_region ?_; refine q_mv rfl rfl rfl rfl rfl ?_; refine q_as rfl rfl rfl rfl rfl ?_; refine o_nil (r_then ?_); refine r_ret ?_; exact r_rete [mapG Tryz.prog 127 mb (G.put (layV l s) (.slice (some ⟨b72, 0, none⟩) D.banks.length D.banks.length))] [entC D (G.put (layV l s) (.slice (some ⟨b72, 0, none⟩) D.banks.length D.banks.length)), rowD (some ⟨b72, 0, none⟩) 1 encI (crs D l s)] (Rd.tmp rfl rfl) ⟨(_, some ⟨b72, 0, none⟩, D.banks.length), rfl, trivial, rfl, rfl⟩ SelMC.sel SubRC.sub
theorem course_s (hg : GoodD D) (l : L5) (hl : InL l) (s : Nat) (hs : s < 128) (G : Cont) : FnS Tryz.prog 112 [pt bb 0, layV l s] [mapG Tryz.prog 127 mb G] [entC D G, boxF bb 181 (cellsG D bo wo ro so bc wc rc sc mb), rowD bo 4 encDB D.banks, rowD wo 2 encDW D.ways, rowD ro 3 encR D.rights] (fun e M' R' => ∃ x : Cont × Option Addr × Nat, e = .returned (.slice x.2.1 D.banks.length x.2.2) ∧ True ∧ M' = [mapG Tryz.prog 127 mb x.1] ∧ R' = [entC D x.1, rowD x.2.1 1 encI (crs D l s)]) := by
  cases hG : G (layV l s) with
  | some v0 => exact course_y D bo wo ro so bc wc rc sc bb mb hg l hl s hs G v0 hG
  | none => exact course_n D bo wo ro so bc wc rc sc bb mb hg l hl s hs G hG
end Go.Proofs.YtpndeonmmcaikaaGreat.DrW

namespace Go.G
variable {P : Program} {W : World} {n m : Nat} {D : List Deferred} {L : Tm} {M : List Res} {R : List Fact} {Q : Exit → Act → World → Prop} {o : Oper} {F : Fence}
def YieldsN {α : Type} (P : Program) (W : World) (l : Nat) (enc : α → List Value) (xs : List α) (J : Nat → Res) (Rf : List Fact) : Prop :=
  ∀ i x, xs[i]? = some x → ∀ Mi Ri w, St W (J i :: Mi) (Ri ++ Rf) w → YieldAt Fence.wide 0 P l (enc x).toArray w fun e w' => e = .returned (.bool true) ∧ St W (J (i + 1) :: Mi) (Ri ++ Rf) w'
def RetSeqK {κ : Type} (W : World) (J : Nat → Res) (K : κ → Res) (E : κ → Fact) (N : Nat) (R : List Fact) (e : Ending) (w' : World) : Prop := (∃ v, e = .returned v) ∧ ∃ k, St W [J N, K k] (E k :: R) w'
structure IsSeqK {α κ : Type} (P : Program) (g : FuncId) (lb : List Value) (Rs : List Fact) (enc : α → List Value) (xs : List α) (K : κ → Res) (E : κ → Fact) : Prop where
  enter : ∀ (ag : Array Value) (w : World), (callFunc g ag).run P w = .ok (.enter g ag) w
  calls : ∀ (l : Nat) (J : Nat → Res) (k0 : κ) (W : World) (Rf : List Fact) (w : World), YieldsN P W l enc xs J Rf → St W [J 0, K k0] (E k0 :: (Rs ++ Rf)) w → Calls P g (.func (.yield l) #[] #[] :: lb).toArray w (RetSeqK W J K E xs.length (Rs ++ Rf))
theorem IsSeqK.introM {α κ : Type} {g : FuncId} {lb : List Value} {Rs : List Fact} {enc : α → List Value} {xs : List α} {K : κ → Res} {E : κ → Fact} {fn : Func} {c : Code} (he : ∀ (ag : Array Value) (w : World), (callFunc g ag).run P w = .ok (.enter g ag) w)
    (hf : P.funcs[g]? = some fn) (hb : fn.body = some c) (hn : fn.ntmps = n) (ha : Nat.ble (lb.length + 1) n = true)
    (h : ∀ l J k0 W Rf, YieldsN P W l enc xs J Rf → Imp W n [] (argsL (.func (.yield l) #[] #[] :: lb) 0) [J 0, K k0] (E k0 :: (Rs ++ Rf)) (c.wp P (bodyPostM Fence.wide 0 P fn (RetSeqK W J K E xs.length (Rs ++ Rf))))) : IsSeqK P g lb Rs enc xs K E := by
  refine ⟨he, fun l J k0 W Rf w hY hw => (callsIn_wide (n := 0)).1 (callsIn_of_wp_marks hf hb trivial (wpIn_wide.2 ?_))⟩
  rw [hn]
  exact h l J k0 W Rf hY _ w (FSat.entry (by simpa using Nat.le_of_ble_eq_true ha)) rfl hw
theorem leaves_markN {db : Nat} {fn : Func} {v : Value} {Rr : Ending → World → Prop} {M1 : List Res} [hM : DelC M (bl db (.deferred (some []))) M1] (hr : Rd P W n L M1 R fn v) (hp : ∀ w', St W M1 R w' → Rr (.returned v) w') :
    Imp W n [mark db] L M R (bodyPostM Fence.wide 0 P fn Rr .normal) := leaves_mark hr hp
theorem m_retseqK {κ : Type} {db : Nat} {fn : Func} {J : Nat → Res} {K : κ → Res} {E : κ → Fact} {N : Nat} {R0 : List Fact} {v : Value} {M1 : List Res} (k : κ) (i : Nat) (hi : i = N) [hD : DelC M (bl db (.deferred (some []))) M1] (hr : Rd P W n L M1 R fn v) (hM : SelM M1 [J i, K k]) (hR : SubR R (E k :: R0)) : Imp W n [mark db] L M R (bodyPostM Fence.wide 0 P fn (RetSeqK W J K E N R0) .normal) := by
  subst hi
  exact leaves_markN hr (fun _ h => ⟨⟨v, rfl⟩, k, (h.sel hM).weak hR⟩)
theorem oi_yieldN {α : Type} {l0 : Nat} {ops : Array Oper} {rest : List Oper} {x : Operand} {xs : List Operand} {ts : Array TypeId} {l d i : Nat} {vs : List Value} {enc : α → List Value} {ys : List α} {J : Nat → Res} {Rf : List Fact} {M' : List Res} {y : α}
    (hY : YieldsN P W l enc ys J Rf) (hy : ys[i]? = some y) (hs : SubR R Rf)
    (ho : o.op = .call { callee := .value x, args := xs.toArray, argTypes := ts }) (hx : ev L x = some (.func (.yield l) #[] #[])) (hxs : evs L xs = some vs) (hv : vs = enc y) (hg : o.guard = none) (hdst : o.dst = some d) (hd : Nat.blt d n = true) [hM : DelC M (J i) M']
    (h1 : Imp W n D ((d, .bool true) :: L) (J (i + 1) :: M') R (wpListIn (Fence.wide.inRound l0) 0 P ops Q rest)) : Imp W n D L M R (wpListIn (Fence.wide.inRound l0) 0 P ops Q (o :: rest)) := by
  subst hv
  intro a w g1 g2 g3
  refine wpListIn_plain hg fun K hK => ⟨fun _ _ => trivial, ?_⟩
  rw [Oper.semAt_eq _ _ _ (fun c e => by rw [e] at ho; cases ho)]
  obtain ⟨fn, tmps, assign, body, hy, hr⟩ := hY i y hy M' R w ((g3.perm hM.del.perm).weak (SubR.append SubR.refl hs))
  have hrun : (execOp a.eval o).run P w = .ok (.round l fn tmps assign body) w := by
    unfold execOp
    simp only [ho, resolve, g1.ev hx, Deferred.ofValue, Sem.run_bind, Sem.run_pure, Result.andThen_ok, invoke, List.map_toArray, g1.evs hxs]
    simpa using hy
  rw [hrun]
  have hr' : RoundIn (Fence.wide.inRound l0) 0 P l fn tmps assign body w _ := hr
  refine ⟨fun h => (by cases h), hr'.mono ?_⟩
  rintro e w' ⟨rfl, h⟩
  show K (a.put o.dst _) w'
  rw [hdst]
  exact hK _ _ (h1 _ w' (g1.put (by simpa using hd) _) (by rw [put_defers]; exact g2) (h.weak (fun φ hφ => List.mem_append_left _ hφ)))
def RoundN (W : World) (J : Nat → Res) (i : Nat) (M : List Res) (R : List Fact) : Exit → Act → World → Prop
  | .normal, _, w => St W (J i :: M) R w
  | _, _, _ => False
theorem r_roundNP {α : Type} {N : Nat → α → List Res} {i : Nat} {M0 : List Res} {R0 : List Fact} (x : α) (hM : SelM M (N i x ++ M0)) (hR : SubR R R0) : Imp W n D L M R (RoundN W (fun i => exR (N i)) i M0 R0 .normal) :=
  fun _ _ _ _ h3 => St.pk x ((h3.sel hM).weak hR)
theorem r_rangeK {α κ : Type} {g : Operand} {ps : List Tmp} {assign body : Code} {gf : FuncId} {lb : List Value} {enc : α → List Value} {xs : List α} {Rs : List Fact} {M0 : List Res} {M1 : List Res} {K : κ → Res} {E : κ → Fact}
    (hs : IsSeqK P gf lb Rs enc xs K E) (hg : ev L g = some (.func (.func gf) #[] lb.toArray)) (hR : SubR R Rs) (hps : ∀ x, (enc x).length = ps.length) (hpn : ps.all (fun p => Nat.blt p n) = true)
    (J : Nat → Res) (k0 : κ) (hE : E k0 ∈ R) (hM : SelM M M1) (h0 : ∀ w, St W M1 R w → St W (J 0 :: K k0 :: M0) R w)
    (hround : ∀ l i x, xs[i]? = some x → ∀ Mi Ri rdy bsy, Beg P l rdy bsy → Imp W n [] (putAll ps (enc x) L) (J i :: rdy :: Mi) (Ri ++ R)
      (assign.wpIn (Fence.wide.inRound l) 0 P (Exit.then (fun a w => ∃ w₂, (Instr.beginRound l).run P w = .ok () w₂ ∧ body.wpIn (Fence.wide.inRound l) 0 P (RoundN W J (i + 1) (bsy :: Mi) (Ri ++ R)) a w₂) (fun _ _ _ => False))))
    (hdone : ∀ k db, Imp W n (mark db :: D) L (J xs.length :: K k :: bl db (.deferred (some [])) :: M0) (E k :: R) (Q .normal)) : Imp W n D L M R ((Code.rangeFunc g ps.toArray assign body).wp P Q) := by
  intro a w h1 h2 h3
  refine (wpIn_wide (n := 0)).1 (wpIn_rangeFunc fun fn _ => ?_)
  have h4 := h0 w (h3.sel hM)
  obtain ⟨rec, hrec⟩ : ∃ rec : LoopState → Option Code → Loop, rec = fun st pe => { state := st, pending := pe, fn, tmps := a.tmps, params := ps.toArray, assign, body, defers := w.heap.size } := ⟨_, rfl⟩
  have h5 := (h4.push (.deferred (some []))).push (.loop (rec .ready none))
  have hsz : (w.alloc (.deferred (some []))).heap.size = w.heap.size + 1 := World.size_alloc _ _
  rw [hsz] at h5
  obtain ⟨W1, hW1⟩ : ∃ W1, (w.alloc (.deferred (some []))).alloc (.loop (rec .ready none)) = W1 := ⟨_, rfl⟩
  rw [hW1] at h5
  refine ⟨w.heap.size + 1, [mark w.heap.size], W1, { target := .fn (.func gf) lb.toArray, args := #[.func (.yield (w.heap.size + 1)) #[] #[]] }, W1, gf,
    #[.func (.yield (w.heap.size + 1)) #[] #[]] ++ lb.toArray, W1, ?_, ?_, fun _ _ => trivial, ?_, (fun h => by cases h), ?_⟩
  · rw [← hW1, hrec]; exact run_enterLoop_outer _ _ _ _ _
  · simp only [resolve, h1.ev hg]
    simp [go_sem]
  · simp [invoke, hs.enter]
  · refine callsIn_wide.2 ?_
    have hbeg : Beg P (w.heap.size + 1) (bl (w.heap.size + 1) (.loop (rec .ready none))) (bl (w.heap.size + 1) (.loop { rec .ready none with state := .busy })) := by
      refine ⟨fun W M M' R w' hw hd => ?_⟩
      have hl := (hw.perm hd.perm).bl (b := w.heap.size + 1) (o := .loop (rec .ready none)) (by simp)
      exact ⟨_, run_beginRound hl (by rw [hrec]), (hw.perm hd.perm).putBl _ Upd.here⟩
    have := hs.calls (w.heap.size + 1)
      (fun i => exR fun (_ : Unit) => J i :: bl (w.heap.size + 1) (.loop (rec .ready none)) :: bl w.heap.size (.deferred (some [])) :: M0) k0
      W R W1 ?_ ?_
    · rw [show #[Value.func (.yield (w.heap.size + 1)) #[] #[]] ++ lb.toArray = (Value.func (.yield (w.heap.size + 1)) #[] #[] :: lb).toArray from by simp]
      refine this.mono ?_
      rintro e w2 ⟨⟨v, rfl⟩, kk, h⟩
      obtain ⟨_, h⟩ := h.unpk
      have h' := h.weak (R' := E kk :: R) (fun φ hφ => by
        rcases List.mem_cons.1 hφ with rfl | hφ
        · exact List.mem_cons_self ..
        · exact List.mem_cons_of_mem _ (List.mem_append_right _ hφ))
      have hl := h'.bl (b := w.heap.size + 1) (o := .loop (rec .ready none)) (by simp)
      refine ⟨none, _, by have := run_endLoop (P := P) hl (by rw [hrec]; simp); rw [hrec] at this; exact this, ?_⟩
      have h6 := h'.putBl (l := w.heap.size + 1) (x := .loop (rec .ready none)) (.loop { rec .ready none with state := .exhausted }) (Upd.there Upd.here)
      refine hdone kk w.heap.size { a with defers := [mark w.heap.size] ++ a.defers } _ ⟨h1.size, h1.vals⟩ (by rw [h2]; rfl) ?_
      rw [hrec] at h6
      exact ((h6.perm (List.Perm.swap _ _ _)).drop).weak (fun _ h => h) |>.perm ((List.perm_append_comm (l₁ := bl w.heap.size (.deferred (some [])) :: M0) (l₂ := [K kk])).cons _)
    · intro i x hx Mi Ri w1 hw1
      obtain ⟨_, h6⟩ := hw1.unpk
      simp only [List.cons_append] at h6
      have hl := h6.bl (b := w.heap.size + 1) (o := .loop (rec .ready none)) (by simp)
      have hz : (ps.toArray.zip (enc x).toArray).foldl (fun t (p, v) => t.setIfInBounds p v) a.tmps = (ps.zip (enc x)).foldl (fun t (p, v) => t.setIfInBounds p v) a.tmps := by simp
      refine ⟨fn, (ps.zip (enc x)).foldl (fun t (p, v) => t.setIfInBounds p v) a.tmps, assign, body, ?_, roundIn_of_wpIn trivial ?_⟩
      · have := run_yield (P := P) (args := (enc x).toArray) hl (by rw [hrec]; simpa using hps x)
        rw [hrec] at this
        rw [← hz]
        exact this
      · have hF := FSat.putAll (t := a.tmps) ps (enc x) hpn ⟨h1.size, h1.vals⟩
        have hrd := hround (w.heap.size + 1) i x hx (bl w.heap.size (.deferred (some [])) :: (M0 ++ Mi)) Ri _ _ hbeg _ w1 hF rfl h6
        refine Go.wpIn_mono hrd ?_
        rintro e a2 w2 h7
        cases e with
        | normal =>
          obtain ⟨w3, hb3, h8⟩ := h7
          refine ⟨w3, hb3, Go.wpIn_mono h8 ?_⟩
          rintro e a4 w4 h9
          have fin : ∀ (X : Res) (jump : Option Code), St W (X :: bl (w.heap.size + 1) (.loop { rec .ready none with state := .busy }) :: bl w.heap.size (.deferred (some [])) :: (M0 ++ Mi)) (Ri ++ R) w4 →
              ∃ w5, (Instr.endRound (w.heap.size + 1) jump).run P w4 = .ok (.bool jump.isNone) w5 ∧ St W (X :: bl (w.heap.size + 1) (.loop (rec (if jump.isNone then .ready else .done) jump)) :: bl w.heap.size (.deferred (some [])) :: (M0 ++ Mi)) (Ri ++ R) w5 := by
            intro X jump h10
            have hl3 := h10.bl (b := w.heap.size + 1) (o := .loop { rec .ready none with state := .busy }) (by simp)
            refine ⟨_, run_endRound jump hl3, ?_⟩
            have := h10.putBl (l := w.heap.size + 1) (x := .loop { rec .ready none with state := .busy }) (.loop (rec (if jump.isNone then .ready else .done) jump)) (Upd.there Upd.here)
            rw [hrec] at this ⊢
            exact this
          cases e with
          | normal =>
            obtain ⟨w5, hr5, h10⟩ := fin _ none h9
            exact ⟨_, w5, hr5, rfl, St.pk () (by simpa using h10)⟩
          | ret => exact h9.elim
          | exit id => exact h9.elim
          | goto t => exact h9.elim
          | panic c => exact h9.elim
          | outgrown => exact h9.elim
        | ret => exact h7.elim
        | exit id => exact h7.elim
        | goto t => exact h7.elim
        | panic c => exact h7.elim
        | outgrown => exact h7.elim
    · have h5' : St W (K k0 :: bl (w.heap.size + 1) (.loop (rec .ready none)) :: bl w.heap.size (.deferred (some [])) :: J 0 :: M0) R W1 := h5.perm (by
        refine ((List.Perm.swap _ _ _).cons _).trans ?_
        refine List.Perm.trans (l₂ := bl (w.heap.size + 1) (.loop (rec .ready none)) :: K k0 :: bl w.heap.size (.deferred (some [])) :: J 0 :: M0) ?_ (List.Perm.swap _ _ _)
        refine List.Perm.cons _ ?_
        refine List.Perm.trans (l₂ := J 0 :: K k0 :: bl w.heap.size (.deferred (some [])) :: M0) ((List.Perm.swap _ _ _).cons _) ?_
        refine (List.Perm.swap _ _ _).trans ?_
        exact (List.Perm.swap _ _ _).cons _)
      have h6 : St W (K k0 :: J 0 :: bl (w.heap.size + 1) (.loop (rec .ready none)) :: bl w.heap.size (.deferred (some [])) :: M0) R W1 := h5'.perm (by
        refine List.Perm.cons _ ?_
        refine List.Perm.trans (l₂ := bl (w.heap.size + 1) (.loop (rec .ready none)) :: J 0 :: bl w.heap.size (.deferred (some [])) :: M0) ((List.Perm.swap _ _ _).cons _) (List.Perm.swap _ _ _))
      obtain ⟨s, ⟨s1, s2, rfl, hk1, hS⟩, hO, hRR⟩ := h6.mem
      refine ⟨h6.os, h6.tape, h6.output, s2 ++ s1, ⟨s2, s1, rfl, ⟨(), hS⟩, s1, [], by simp, hk1, rfl⟩, hO.perm List.perm_append_comm, fun φ hφ => ?_⟩
      rw [vw_perm (s' := s1 ++ s2) List.perm_append_comm]
      rcases List.mem_cons.1 hφ with rfl | hφ
      · exact hRR _ hE
      · rcases List.mem_append.1 hφ with hφ | hφ
        · exact hRR _ (hR φ hφ)
        · exact hRR _ hφ
structure FnYG {γ κ : Type} (P : Program) (W : World) (k : FuncId) (args : List Value) (J : γ → Nat → Res) (F : γ → Nat → Fact) (A : κ → Res) (p : κ → Prop) (i0 i1 : Nat) (R0 Rf : List Fact) : Prop where
  enter : ∀ (ag : Array Value) (w : World), (callFunc k ag).run P w = .ok (.enter k ag) w
  calls : ∀ g a, p a → ∀ Mf Ri w, St W (J g i0 :: A a :: Mf) (F g i0 :: ((R0 ++ Ri) ++ Rf)) w → Calls P k args.toArray w fun e w' => e = .returned (.bool true) ∧ ∃ g' a', p a' ∧ St W (J g' i1 :: A a' :: Mf) (F g' i1 :: ((R0 ++ Ri) ++ Rf)) w'
def RetYG {γ κ : Type} (W : World) (Mf : List Res) (R : List Fact) (J : γ → Nat → Res) (F : γ → Nat → Fact) (A : κ → Res) (p : κ → Prop) (i1 : Nat) (e : Ending) (w' : World) : Prop := e = .returned (.bool true) ∧ ∃ g a, p a ∧ St W (J g i1 :: A a :: Mf) (F g i1 :: R) w'
theorem FnYG.intro {γ κ : Type} {k : FuncId} {args : List Value} {J : γ → Nat → Res} {F : γ → Nat → Fact} {A : κ → Res} {p : κ → Prop} {i0 i1 : Nat} {R0 Rf : List Fact} {fn : Func} {c : Code} (he : ∀ (ag : Array Value) (w : World), (callFunc k ag).run P w = .ok (.enter k ag) w)
    (hf : P.funcs[k]? = some fn) (hb : fn.body = some c) (hn : fn.ntmps = n) (ha : Nat.ble args.length n = true)
    (h : ∀ g a, p a → ∀ Mf Ri, Imp W n [] (argsL args 0) (J g i0 :: A a :: Mf) (F g i0 :: ((R0 ++ Ri) ++ Rf)) (c.wp P (bodyPost P fn (RetYG W Mf ((R0 ++ Ri) ++ Rf) J F A p i1)))) : FnYG P W k args J F A p i0 i1 R0 Rf := by
  refine ⟨he, fun g a hp Mf Ri w hw => calls_of_wp hf hb ?_⟩
  rw [hn]
  exact h g a hp Mf Ri _ w (FSat.entry (Nat.le_of_ble_eq_true ha)) rfl hw
theorem r_yesG {γ κ : Type} {fn : Func} {Mf : List Res} {J : γ → Nat → Res} {F : γ → Nat → Fact} {A : κ → Res} {p : κ → Prop} {i1 : Nat} {R0 : List Fact} (g : γ) (a : κ) (hp : p a) (hr : Rd P W n L M R fn (.bool true)) (hM : SelM M (J g i1 :: A a :: Mf)) (hR : SubR R (F g i1 :: R0)) : Imp W n [] L M R (bodyPost P fn (RetYG W Mf R0 J F A p i1) .ret) :=
  fun ac w h1 h2 h3 => ⟨h2, _, hr ac w h1 h3, rfl, g, a, hp, (h3.sel hM).weak hR⟩
theorem o_fnYG {γ κ : Type} {ops : Array Oper} {rest : List Oper} {k : FuncId} {args : List Value} {J : γ → Nat → Res} {F : γ → Nat → Fact} {A : κ → Res} {p : κ → Prop} {i0 i1 : Nat} {R0 Rf : List Fact} {f : Operand} {xs : List Operand} {ts : Array TypeId} {vs caps : List Value} {d : Nat} {M1 M2 : List Res} {g : γ} {a : κ}
    (h : FnYG P W k args J F A p i0 i1 R0 Rf) (hp : p a) (ho : o.op = .call { callee := .value f, args := xs.toArray, argTypes := ts }) (hf : ev L f = some (.func (.func k) #[] caps.toArray))
    (hx : evs L xs = some vs) (ha : vs ++ caps = args) (hg : o.guard = none) (hdst : o.dst = some d) (hd : Nat.blt d n = true) (hF : F g i0 ∈ R) (hs : SubR R R0) (hsf : SubR R Rf) [hM : DelC M (J g i0) M1] [hM2 : DelC M1 (A a) M2]
    (h1 : ∀ g' a', p a' → Imp W n D ((d, .bool true) :: L) (J g' i1 :: A a' :: M2) (F g' i1 :: R) (wpList P ops Q rest)) : Imp W n D L M R (wpList P ops Q (o :: rest)) := by
  intro ac w g1 g2 g3
  refine wpList_plain hg fun K hK => ?_
  unfold Oper.wp
  rw [exec_call [] caps ho (by simpa using g1.ev hf) (g1.evs hx) h.enter, List.nil_append, ha]
  have g4 : St W (J g i0 :: A a :: M2) (F g i0 :: ((R0 ++ R) ++ Rf)) w := (g3.perm (hM.del.perm.trans (hM2.del.perm.cons _))).weak (fun φ hφ => by
    rcases List.mem_cons.1 hφ with rfl | hφ
    · exact hF
    · rcases List.mem_append.1 hφ with hφ | hφ
      · rcases List.mem_append.1 hφ with hφ | hφ
        · exact hs φ hφ
        · exact hφ
      · exact hsf φ hφ)
  refine (h.calls g a hp M2 R w g4).mono ?_
  rintro e w' ⟨rfl, g', a', hp', hw⟩
  show K (ac.put o.dst _) w'
  rw [hdst]
  refine hK _ _ (h1 g' a' hp' _ w' (g1.put (by simpa using hd) _) (by rw [put_defers]; exact g2) (hw.weak (fun φ hφ => ?_)))
  rcases List.mem_cons.1 hφ with rfl | hφ
  · exact List.mem_cons_self ..
  · exact List.mem_cons_of_mem _ (List.mem_append_left _ (List.mem_append_right _ hφ))
theorem oi_yieldG3 {α γ : Type} {ops : Array Oper} {rest : List Oper} {x : Operand} {xs : List Operand} {ts : Array TypeId} {l d i : Nat} {vs : List Value} {enc : α → List Value} {ys : List α} {J : γ → Nat → Res} {F : γ → Nat → Fact} {g : γ} {Rf : List Fact} {M' : List Res} {y : α}
    (hY : YieldsG P W l enc ys J F Rf) (hy : ys[i]? = some y) (hF : F g i ∈ R) (hs : SubR R Rf)
    (ho : o.op = .call { callee := .value x, args := xs.toArray, argTypes := ts }) (hx : ev L x = some (.func (.yield l) #[] #[])) (hxs : evs L xs = some vs) (hv : vs = enc y) (hg : o.guard = none) (hdst : o.dst = some d) (hd : Nat.blt d n = true) [hM : DelC M (J g i) M']
    (h1 : ∀ g, Imp W n D ((d, .bool true) :: L) (J g (i + 1) :: M') (F g (i + 1) :: R) (wpListIn Fence.wide 0 P ops Q rest)) : Imp W n D L M R (wpListIn Fence.wide 0 P ops Q (o :: rest)) := by
  subst hv
  refine oi_yieldG (M1 := fun g => J g (i + 1) :: M') (R1 := fun g => F g (i + 1) :: (R ++ Rf)) ho hx hxs hg hdst hd (fun w h => hY i y hy g M' R w ((h.perm hM.del.perm).weak (fun φ hφ => ?_))) (fun g => (h1 g).weak (fun _ _ h => h) SelM.refl (fun φ hφ => ?_))
  · rcases List.mem_cons.1 hφ with rfl | hφ
    · exact hF
    · rcases List.mem_append.1 hφ with hφ | hφ
      · exact hφ
      · exact hs φ hφ
  · rcases List.mem_cons.1 hφ with rfl | hφ
    · exact List.mem_cons_self ..
    · exact List.mem_cons_of_mem _ (List.mem_append_left _ hφ)
end Go.G

namespace Go.G
variable {P : Program} {W : World} {n m : Nat} {D : List Deferred} {L : Tm} {M : List Res} {R : List Fact} {Q : Exit → Act → World → Prop} {F : Fence}
theorem ri_once {c : Code} (h : Imp W n D L M R (c.wpIn F m P (Exit.then (fun _ _ => False) Q))) : Imp W n D L M R ((Code.loop c).wpIn F m P Q) := h.mono fun _ _ => wpIn_loop_once
end Go.G

namespace Go.Proofs.YtpndeonmmcaikaaGreat.DrW
open Go.G Foot4 Drain7
set_option maxRecDepth 1000000
attribute [local irreducible] G.ParO G.Fin
attribute [local irreducible] crs crK crP wat allL lvs sortedL preL nxL cntL
def AgL (D : Dr) (n : Nat) (c cc : L5) : Prop := ∀ k, k < 5 → (k < n ∨ D.banks.length ≤ k) → cc.at k = c.at k
theorem AgL.refl {D : Dr} {n : Nat} {c : L5} : AgL D n c c := fun _ _ _ => rfl
theorem AgL.set {D : Dr} {n : Nat} {c cc : L5} {v : Int} (h : AgL D n c cc) (hn : n < 5) : AgL D (n + 1) (c.set n v) (cc.set n v) := fun k hk h2 => by
  rw [L5.at_set hn hk, L5.at_set hn hk]
  split
  · rfl
  · exact h k hk (by omega)
theorem AgL.back {D : Dr} {n : Nat} {c a : L5} {v : Int} (h : AgL D (n + 1) (c.set n v) a) (hn : n < 5) (hd : n < D.banks.length) : AgL D n c a := fun k hk h2 => by
  rw [h k hk (by omega), L5.at_set hn hk, if_neg (by omega)]
theorem AgL.all {D : Dr} {c cc : L5} (h : AgL D D.banks.length c cc) : cc = c := L5.ext' fun k hk => h k hk (by omega)
variable (D : Dr) (bo wo ro so : Option Addr) (bc wc rc sc : Nat) (bb mb : Nat)
set_option maxHeartbeats 4000000 in
theorem onL_0 {W : World} {l : Nat} {γ : Type} {J : γ → Nat → Res} {F : γ → Nat → Fact} {Rf : List Fact} {xs : List L5} (hY : G.YieldsG Tryz.prog W l (fun c : L5 => [v5 c]) xs J F Rf) (c1 yb ob fb : Nat) (hg : GoodD D) (c : L5) (i i0 : Nat) (hi : i = D.banks.length) (hx : xs[i0]? = some c) : FnYG Tryz.prog W 172 [i64 ((i : Nat) : Int), pt c1 0, pt yb 0, pt ob 0, pt fb 0] J F (fun cc : L5 => bx ob 123 (cells5 cc)) (AgL D (i) (c)) (i0) (i0 + 1) [boxF c1 111 [pt bb 0], boxF yb 128 [.func (.yield l) #[] #[]], boxF fb 103 [.func (.func 172) #[] #[pt c1 0, pt yb 0, pt ob 0, pt fb 0]], boxF bb 181 (cellsG D bo wo ro so bc wc rc sc mb), rowD bo 4 encDB D.banks, rowD wo 2 encDW D.ways, rowD ro 3 encR D.rights] Rf := by
 refine FnYG.intro Tryz.call172 Tryz.func172 rfl Tryz.ntmps172 rfl ?_; intro gq cq hcq M Ri; refine r_seq ?_; subst hi; obtain rfl := AgL.all hcq; refine r_region ?_; refine q_as rfl rfl rfl rfl rfl ?_; refine o_nil (r_then (r_seq ?_)); refine r_seq (r_region ?_); refine q_mv rfl rfl rfl rfl rfl ?_; refine o_q _ rfl rfl rfl (v_lf1 rfl Tryz.underlying111 rfl rfl rfl) ?_; refine o_q _ rfl rfl rfl (v_nilCheck rfl rfl) ?_; refine o_q _ rfl rfl rfl (v_fieldAddr rfl Tryz.underlying181 inf30 rfl rfl rfl rfl) ?_; refine o_q _ rfl rfl rfl (v_fieldAddr rfl Tryz.underlying30 inf26 rfl rfl rfl rfl) ?_; refine o_q _ rfl rfl rfl (v_lf1 rfl Tryz.underlying26 rfl rfl rfl) ?_; refine o_q _ rfl rfl rfl (v_len rfl rfl Tryz.underlying26 rfl) ?_; refine o_q _ rfl rfl rfl (v_eql rfl rfl rfl) ?_; refine o_nil (r_then ?_); refine r_condd rfl (fun hc15 => ?_) (fun hc15 => ?_)
 ·
  refine r_seq ?_; refine r_region_in ?_; refine oi_lift wideF rfl (fun _ _ h => by obtain ⟨h, _⟩ := h; cases h) ?_; refine o_q _ rfl rfl rfl (v_lf1 rfl Tryz.underlying128 rfl rfl rfl) ?_; refine o_nil (r_then ?_); refine oi_lift wideF rfl (fun _ _ h => by obtain ⟨h, _⟩ := h; cases h) ?_; refine o_q _ rfl rfl rfl (v_ldW rfl Tryz.underlying123 rfl inf123 rfl rfl) ?_; refine o_nil (r_then ?_); refine oi_yieldG3 (g := gq) hY hx InR.mem SubRC.sub rfl rfl rfl rfl rfl rfl rfl (fun g2 => ?_)
  all_goals
   refine oi_lift wideF rfl (fun _ _ h => by obtain ⟨h, _⟩ := h; cases h) ?_; refine q_as rfl rfl rfl rfl rfl ?_; refine o_nil (r_then ?_); refine oi_nil ?_; refine r_then ?_; refine r_ret ?_; (with_reducible refine r_then_ret ?_); exact r_yesG g2 cq AgL.refl (Rd.tmp rfl rfl) SelMC.sel SubRC.sub
 ·
  (exfalso; omega)
set_option maxHeartbeats 4000000 in
theorem onL_s {W : World} {l : Nat} {γ : Type} {J : γ → Nat → Res} {F : γ → Nat → Fact} {Rf : List Fact} {xs : List L5} (hY : G.YieldsG Tryz.prog W l (fun c : L5 => [v5 c]) xs J F Rf) (c1 yb ob fb : Nat) (hg : GoodD D) (c : L5) (i i0 : Nat) (hi : i < D.banks.length) (ih : ∀ (c2 : L5) (j0 : Nat), SubG (lvs (D.banks.drop (i + 1)) (i + 1) c2) xs j0 → FnYG Tryz.prog W 172 [i64 ((i + 1 : Nat) : Int), pt c1 0, pt yb 0, pt ob 0, pt fb 0] J F (fun cc : L5 => bx ob 123 (cells5 cc)) (AgL D (i + 1) (c2)) (j0) (j0 + (lvs (D.banks.drop (i + 1)) (i + 1) c2).length) [boxF c1 111 [pt bb 0], boxF yb 128 [.func (.yield l) #[] #[]], boxF fb 103 [.func (.func 172) #[] #[pt c1 0, pt yb 0, pt ob 0, pt fb 0]], boxF bb 181 (cellsG D bo wo ro so bc wc rc sc mb), rowD bo 4 encDB D.banks, rowD wo 2 encDW D.ways, rowD ro 3 encR D.rights] Rf) (hx : SubG (preL D c i (cntL D i)) xs i0) : FnYG Tryz.prog W 172 [i64 ((i : Nat) : Int), pt c1 0, pt yb 0, pt ob 0, pt fb 0] J F (fun cc : L5 => bx ob 123 (cells5 cc)) (AgL D (i) (c)) (i0) (i0 + (preL D c i (cntL D i)).length) [boxF c1 111 [pt bb 0], boxF yb 128 [.func (.yield l) #[] #[]], boxF fb 103 [.func (.func 172) #[] #[pt c1 0, pt yb 0, pt ob 0, pt fb 0]], boxF bb 181 (cellsG D bo wo ro so bc wc rc sc mb), rowD bo 4 encDB D.banks, rowD wo 2 encDW D.ways, rowD ro 3 encR D.rights] Rf := by
 refine FnYG.intro Tryz.call172 Tryz.func172 rfl Tryz.ntmps172 rfl ?_; intro gq cq hcq M Ri; refine r_seq ?_; have h5 := hg.1.2; have hsp := (hg.2.2.2.2.1 i hi).1; unfold SpanD at hsp; have hcn : cntL D i = ((D.banks.getD i default).lhi - (D.banks.getD i default).llo + 1).toNat := by rw [cntL]
 refine r_region ?_; refine q_as rfl rfl rfl rfl rfl ?_; refine o_nil (r_then (r_seq ?_)); refine r_seq (r_region ?_); refine q_mv rfl rfl rfl rfl rfl ?_; refine o_q _ rfl rfl rfl (v_lf1 rfl Tryz.underlying111 rfl rfl rfl) ?_; refine o_q _ rfl rfl rfl (v_nilCheck rfl rfl) ?_; refine o_q _ rfl rfl rfl (v_fieldAddr rfl Tryz.underlying181 inf30 rfl rfl rfl rfl) ?_; refine o_q _ rfl rfl rfl (v_fieldAddr rfl Tryz.underlying30 inf26 rfl rfl rfl rfl) ?_; refine o_q _ rfl rfl rfl (v_lf1 rfl Tryz.underlying26 rfl rfl rfl) ?_; refine o_q _ rfl rfl rfl (v_len rfl rfl Tryz.underlying26 rfl) ?_; refine o_q _ rfl rfl rfl (v_eql rfl rfl rfl) ?_; refine o_nil (r_then ?_); refine r_condd rfl (fun hc15 => ?_) (fun hc15 => ?_)
 ·
  (exfalso; omega)
 ·
  refine r_skip (r_then ?_); refine r_seq ?_; refine r_seq (r_region ?_); refine o_q _ rfl rfl rfl (v_lf1 rfl Tryz.underlying111 rfl rfl rfl) ?_; refine o_q _ rfl rfl rfl (v_nilCheck rfl rfl) ?_; refine o_q _ rfl rfl rfl (v_fieldAddr rfl Tryz.underlying181 inf30 rfl rfl rfl rfl) ?_; refine o_q _ rfl rfl rfl (v_fieldAddr rfl Tryz.underlying30 inf26 rfl rfl rfl rfl) ?_; refine o_q _ rfl rfl rfl (v_lf1 rfl Tryz.underlying26 rfl rfl rfl) ?_; refine q_mv rfl rfl rfl rfl rfl ?_; refine o_q _ rfl rfl rfl (v_indexAddrSn rfl Tryz.underlying26 inf53 rfl rfl rfl (by omega) rfl) ?_; refine o_q _ rfl rfl rfl (v_fieldAddr rfl Tryz.underlying53 inf43 rfl rfl rfl rfl) ?_; refine o_q _ rfl rfl rfl (v_fieldAddr rfl Tryz.underlying43 inf3 rfl rfl rfl rfl) ?_; refine o_q _ rfl rfl rfl (v_loadE1 (j := 0) rfl Tryz.underlying3 rfl rfl (by omega) rfl rfl) ?_; refine q_as rfl rfl rfl rfl rfl ?_; refine o_nil (r_then ?_); refine r_block ?_; refine r_loop (ι := γ × Nat × L5) (fun gh => gh.2.1 ≤ cntL D i ∧ AgL D i c gh.2.2) (fun gh => [(0, i64 (i : Int)), (1, pt c1 0), (2, pt yb 0), (3, pt ob 0), (4, pt fb 0), (7, i64 ((D.banks.getD i default).llo + (gh.2.1 : Int)))]) (fun gh => J gh.1 (i0 + (preL D c i gh.2.1).length) :: bx ob 123 (cells5 gh.2.2) :: M) (fun gh => F gh.1 (i0 + (preL D c i gh.2.1).length) :: (([boxF c1 111 [pt bb 0], boxF yb 128 [.func (.yield l) #[] #[]], boxF fb 103 [.func (.func 172) #[] #[pt c1 0, pt yb 0, pt ob 0, pt fb 0]], boxF bb 181 (cellsG D bo wo ro so bc wc rc sc mb), rowD bo 4 encDB D.banks, rowD wo 2 encDW D.ways, rowD ro 3 encR D.rights] ++ Ri) ++ Rf)) (fun gh => cntL D i - gh.2.1) (gq, 0, cq) ?_ ?_ ?_
  ·
   rw [show J gq i0 = J gq (i0 + (preL D c i ((gq, (0, cq)) : γ × Nat × L5).2.1).length) from by rw [preL]; rfl, show F gq i0 = F gq (i0 + (preL D c i ((gq, (0, cq)) : γ × Nat × L5).2.1).length) from by rw [preL]; rfl]; exact r_here (by repeat (first | exact FSub.nil | refine FSub.cons rfl ?_ | refine FSub.cons2 rfl (congrArg (Value.int .i64) (by show _ = _ + ((0 : Nat) : Int); omega)) ?_)) SelMC.sel SubRC.sub
  ·
   exact ⟨Nat.zero_le _, hcq⟩
  ·
   rintro ⟨q, k, cc⟩ hI0; dsimp only at hI0; dsimp only; refine r_seq ?_; refine r_seq (r_region ?_); refine q_mv rfl rfl rfl rfl rfl ?_; refine o_q _ rfl rfl rfl (v_lf1 rfl Tryz.underlying111 rfl rfl rfl) ?_; refine o_q _ rfl rfl rfl (v_nilCheck rfl rfl) ?_; refine o_q _ rfl rfl rfl (v_fieldAddr rfl Tryz.underlying181 inf30 rfl rfl rfl rfl) ?_; refine o_q _ rfl rfl rfl (v_fieldAddr rfl Tryz.underlying30 inf26 rfl rfl rfl rfl) ?_; refine o_q _ rfl rfl rfl (v_lf1 rfl Tryz.underlying26 rfl rfl rfl) ?_; refine q_mv rfl rfl rfl rfl rfl ?_; refine o_q _ rfl rfl rfl (v_indexAddrSn rfl Tryz.underlying26 inf53 rfl rfl rfl (by omega) rfl) ?_; refine o_q _ rfl rfl rfl (v_fieldAddr rfl Tryz.underlying53 inf43 rfl rfl rfl rfl) ?_; refine o_q _ rfl rfl rfl (v_fieldAddr rfl Tryz.underlying43 inf3 rfl rfl rfl rfl) ?_; refine o_q _ rfl rfl rfl (v_loadE1 (j := 1) rfl Tryz.underlying3 rfl rfl (by omega) rfl rfl) ?_; refine o_q _ rfl rfl rfl (v_leq rfl rfl rfl) ?_; refine o_nil (r_then ?_); refine r_condd rfl (fun hc40 => ?_) (fun hc40 => ?_)
   ·
    refine r_skip (r_then ?_); refine r_seq (r_block ?_); refine r_seq ?_; have hsub : SubG (lvs (D.banks.drop (i + 1)) (i + 1) (c.set i ((D.banks.getD i default).llo + (k : Int)))) xs (i0 + (preL D c i k).length) := by rw [← nxL_eq]; exact subL_mid (cntL D i) hx (by omega)
    have hlen : i0 + (preL D c i (k + 1)).length = i0 + (preL D c i k).length + (lvs (D.banks.drop (i + 1)) (i + 1) (c.set i ((D.banks.getD i default).llo + (k : Int)))).length := by rw [preL_len, ← nxL_eq, Nat.add_assoc]
    refine r_region ?_; refine q_mv rfl rfl rfl rfl rfl ?_; refine q_mv rfl rfl rfl rfl rfl ?_; refine o_q _ rfl rfl rfl (v_indexAddrAn rfl Tryz.underlying123 inf3 rfl rfl (by omega)) ?_; refine o_st (us := [i64 ((D.banks.getD i default).llo + k)]) rfl inf3 rfl rfl rfl rfl rfl rfl rfl (cells5_ble (by omega)) ?_; refine o_nil (r_then (r_seq ?_)); refine Imp.box_to ob (cells5 (cc.set i ((D.banks.getD i default).llo + (k : Int)))) (by exact cells5_set (by omega)) ?_; refine r_region ?_; refine o_q _ rfl rfl rfl (v_lf1 rfl Tryz.underlying103 rfl rfl rfl) ?_; refine q_mv rfl rfl rfl rfl rfl ?_; refine o_q _ rfl rfl rfl (v_cast (v := i64 ((i + 1 : Nat) : Int)) (v_add rfl rfl rfl (by omega)) (congrArg (Value.int .i64) (by push_cast; rfl))) ?_; refine o_fnYG (g := q) (a := cc.set i ((D.banks.getD i default).llo + (k : Int))) (caps := [pt c1 0, pt yb 0, pt ob 0, pt fb 0]) (ih (c.set i ((D.banks.getD i default).llo + k)) (i0 + (preL D c i k).length) hsub) (hI0.2.set (by omega)) rfl rfl rfl rfl rfl rfl rfl InR.mem SubRC.sub SubRC.sub (fun q2 c9 hc9 => ?_)
    all_goals
     refine o_q _ rfl rfl rfl (v_not rfl rfl) ?_; refine o_nil (r_then ?_); refine r_cond rfl (fun hc50 => ?_) (fun hc50 => ?_)
     ·
      (exfalso; revert hc50; decide)
     ·
      refine r_skip ?_; refine r_in_normal ?_; refine r_then ?_; refine r_region ?_; refine q_mv rfl rfl rfl rfl rfl ?_; refine o_q _ rfl rfl rfl (v_add rfl rfl rfl (by omega)) ?_; refine q_as rfl rfl rfl rfl rfl ?_; refine o_nil (r_then ?_); exact r_next ((q2, k + 1, c9)) (by rw [hlen]; exact r_here (by repeat (first | exact FSub.nil | refine FSub.cons rfl ?_ | refine FSub.cons2 rfl (congrArg (Value.int .i64) (by push_cast; omega)) ?_)) SelMC.sel SubRC.sub) (by exact ⟨by show k + 1 ≤ cntL D i; omega, hc9.back (by omega) hi⟩) (by show cntL D i - (k + 1) < cntL D i - k; omega)
   ·
    refine r_exit ?_; refine r_then_exit ?_; refine r_then_exit ?_; refine r_in_here ?_; refine r_then (r_seq (r_region ?_)); refine q_as rfl rfl rfl rfl rfl ?_; refine o_nil (r_then ?_); refine r_ret ?_
    (obtain hk9 : k = cntL D i := (by omega); subst hk9; exact r_yesG q cc hI0.2 (Rd.tmp rfl rfl) SelMC.sel SubRC.sub)
theorem onL_y {W : World} {l : Nat} {γ : Type} {J : γ → Nat → Res} {F : γ → Nat → Fact} {Rf : List Fact} {xs : List L5} (hY : G.YieldsG Tryz.prog W l (fun c : L5 => [v5 c]) xs J F Rf) (c1 yb ob fb : Nat) (hg : GoodD D) : ∀ (r i : Nat) (c : L5) (i0 : Nat), i + r = D.banks.length → SubG (lvs (D.banks.drop i) i c) xs i0 → FnYG Tryz.prog W 172 [i64 ((i : Nat) : Int), pt c1 0, pt yb 0, pt ob 0, pt fb 0] J F (fun cc : L5 => bx ob 123 (cells5 cc)) (AgL D (i) (c)) (i0) (i0 + (lvs (D.banks.drop i) i c).length) [boxF c1 111 [pt bb 0], boxF yb 128 [.func (.yield l) #[] #[]], boxF fb 103 [.func (.func 172) #[] #[pt c1 0, pt yb 0, pt ob 0, pt fb 0]], boxF bb 181 (cellsG D bo wo ro so bc wc rc sc mb), rowD bo 4 encDB D.banks, rowD wo 2 encDW D.ways, rowD ro 3 encR D.rights] Rf
  | 0, i, c, i0, h, hs => by
    rw [lvs_end (D := D) (i := i) (by omega)] at hs ⊢
    exact onL_0 D bo wo ro so bc wc rc sc bb mb hY c1 yb ob fb hg c i i0 (by omega) (by have := hs 0 c rfl; rw [Nat.add_zero] at this; exact this)
  | r + 1, i, c, i0, h, hs => by
    rw [lvs_split (D := D) (i := i) (by omega)] at hs ⊢
    exact onL_s D bo wo ro so bc wc rc sc bb mb hY c1 yb ob fb hg c i i0 (by omega) (fun c2 j0 h2 => onL_y hY c1 yb ob fb hg r (i + 1) c2 j0 (by omega) h2) hs
set_option maxHeartbeats 4000000 in
theorem all1_s (c1 : Nat) (hg : GoodD D) : IsSeqG Tryz.prog 171 [pt c1 0] [boxF c1 111 [pt bb 0], boxF bb 181 (cellsG D bo wo ro so bc wc rc sc mb), rowD bo 4 encDB D.banks, rowD wo 2 encDW D.ways, rowD ro 3 encR D.rights] (fun c : L5 => [v5 c]) (allL D) := by
 refine IsSeqG.intro Tryz.call171 Tryz.func171 rfl Tryz.ntmps171 rfl ?_; intro γ l J F g0 W Rf hY; refine r_seq (r_region ?_); refine o_box1 rfl rfl rfl rfl rfl rfl (fun b2 => ?_); refine o_nil (r_then (r_seq (r_region ?_))); refine o_alloc rfl inf123 rfl rfl rfl rfl rfl (fun b3 => ?_); refine o_nil (r_then (r_seq (r_region ?_))); refine o_alloc rfl inf103 rfl rfl rfl rfl rfl (fun b4 => ?_); refine o_nil (r_then (r_seq (r_region ?_))); refine o_q _ rfl rfl rfl (v_makeFunc rfl rfl rfl) ?_; refine o_st rfl inf103 rfl rfl rfl rfl rfl rfl rfl rfl ?_; refine o_nil (r_then ?_); refine Imp.box_to b4 [.func (.func 172) #[] #[pt c1 0, pt b2 0, pt b3 0, pt b4 0]] rfl ?_; refine Imp.box_to b3 (cells5 ⟨0, 0, 0, 0, 0⟩) rfl ?_; refine Imp.sealB b2 ?_; refine Imp.sealB b4 ?_; refine r_region ?_; refine o_q _ rfl rfl rfl (v_lf1 rfl Tryz.underlying103 rfl rfl rfl) ?_; refine o_fnYG (g := g0) (a := ⟨0, 0, 0, 0, 0⟩) (caps := [pt c1 0, pt b2 0, pt b3 0, pt b4 0]) (onL_y D bo wo ro so bc wc rc sc bb mb hY c1 b2 b3 b4 hg D.banks.length 0 ⟨0, 0, 0, 0, 0⟩ 0 (by omega) (fun j y h => by rw [Nat.zero_add, allL]; exact h)) AgL.refl rfl rfl rfl rfl rfl rfl rfl InR.mem SubRC.sub SubRC.sub (fun q2 c9 hc9 => ?_)
 all_goals
  refine o_nil ?_; exact r_retseqG q2 (0 + (lvs (D.banks.drop 0) 0 ⟨0, 0, 0, 0, 0⟩).length) (by rw [Nat.zero_add, allL]; rfl) (Rd.none rfl) SelMC.sel SubRC.sub
end Go.Proofs.YtpndeonmmcaikaaGreat.DrW

namespace Go.Proofs.YtpndeonmmcaikaaGreat.DrW
open Go.G Foot4 Drain7
set_option maxRecDepth 1000000
attribute [local irreducible] G.ParO G.Fin
attribute [local irreducible] crs crK crP wat allL lvs sortedL preL nxL cntL
variable (D : Dr) (bo wo ro so : Option Addr) (bc wc rc sc : Nat) (bb mb : Nat)
set_option maxHeartbeats 4000000 in
theorem all_s  : FnS Tryz.prog 151 [pt bb 0] [] [] (fun e M' R' => ∃ x : Nat, e = .returned (.func (.func 171) #[] #[pt x 0]) ∧ M' = [] ∧ R' = [boxF x 111 [pt bb 0]]) := by
 refine FnS.intro0 Tryz.call151 Tryz.func151 rfl Tryz.ntmps151 rfl ?_; intro W M Rf; refine r_seq (r_region ?_); refine o_box1 rfl rfl rfl rfl rfl rfl (fun b1 => ?_); refine q_as rfl rfl rfl rfl rfl ?_; refine o_nil (r_then (r_seq (r_region ?_))); refine o_q _ rfl rfl rfl (v_makeFunc rfl rfl rfl) ?_; refine q_as rfl rfl rfl rfl rfl ?_; refine o_nil (r_then ?_); refine r_ret ?_; refine Imp.sealB b1 ?_; exact r_rete [] [boxF b1 111 [pt bb 0]] (Rd.tmp rfl rfl) ⟨b1, rfl, rfl, rfl⟩ SelMC.sel SubRC.sub
set_option maxHeartbeats 4000000 in
theorem seen_s (s : Nat) : FnS Tryz.prog 107 [pt bb 0, u64 s] [] [] (fun e M' R' => ∃ x : Nat × Nat, e = .returned (.func (.func 150) #[] #[pt x.1 0, pt x.2 0]) ∧ M' = [] ∧ R' = [boxF x.1 111 [pt bb 0], boxF x.2 116 [u64 s]]) := by
 refine FnS.intro0 Tryz.call107 Tryz.func107 rfl Tryz.ntmps107 rfl ?_; intro W M Rf; refine r_seq (r_region ?_); refine o_box1 rfl rfl rfl rfl rfl rfl (fun b2 => ?_); refine o_box1 rfl rfl rfl rfl rfl rfl (fun b3 => ?_); refine q_as rfl rfl rfl rfl rfl ?_; refine o_nil (r_then (r_seq (r_region ?_))); refine o_q _ rfl rfl rfl (v_makeFunc rfl rfl rfl) ?_; refine q_as rfl rfl rfl rfl rfl ?_; refine o_nil (r_then ?_); refine r_ret ?_; refine Imp.sealB b2 ?_; refine Imp.sealB b3 ?_; exact r_rete [] [boxF b2 111 [pt bb 0], boxF b3 116 [u64 s]] (Rd.tmp rfl rfl) ⟨(b2, b3), rfl, rfl, rfl⟩ SelMC.sel SubRC.sub
set_option maxHeartbeats 4000000 in
theorem every_v (hs : D.seen.length = 0) : FnV Tryz.prog 108 [pt bb 0] [boxF bb 181 (cellsG D bo wo ro so bc wc rc sc mb), rowD bo 4 encDB D.banks, rowD wo 2 encDW D.ways, rowD ro 3 encR D.rights] (u64 0) := by
 refine FnV.intro Tryz.call108 Tryz.func108 rfl Tryz.ntmps108 rfl ?_; intro W M Rf; refine r_seq (r_region ?_); refine q_as rfl rfl rfl rfl rfl ?_; refine o_nil (r_then (r_seq (r_region ?_))); refine q_mv rfl rfl rfl rfl rfl ?_; refine o_q _ rfl rfl rfl (v_nilCheck rfl rfl) ?_; refine o_q _ rfl rfl rfl (v_fieldAddr rfl Tryz.underlying181 inf30 rfl rfl rfl rfl) ?_; refine o_q _ rfl rfl rfl (v_fieldAddr rfl Tryz.underlying30 inf27 rfl rfl rfl rfl) ?_; refine o_q _ rfl rfl rfl (v_lf1 rfl Tryz.underlying27 rfl rfl rfl) ?_; refine o_q _ rfl rfl rfl (v_len rfl rfl Tryz.underlying27 rfl) ?_; refine o_q _ rfl rfl rfl (v_cast (v := u64 1) (v_shlU (h := D.seen.length) (m := 2 ^ D.seen.length) rfl rfl rfl (by omega) rfl) (by rw [hs])) ?_; refine o_q _ rfl rfl rfl (v_cast (v := u64 0) (v_subU rfl rfl rfl (by decide)) rfl) ?_; refine q_as rfl rfl rfl rfl rfl ?_; refine o_nil (r_then ?_); refine r_ret ?_; exact r_retv2 (Rd.tmp rfl rfl) rfl SelMC.sel SubRC.sub
set_option maxHeartbeats 4000000 in
theorem seen1_s (c1 c2 : Nat) (hg : GoodD D) (hs : D.seen.length = 0) : IsSeqK Tryz.prog 150 [pt c1 0, pt c2 0] [boxF c1 111 [pt bb 0], boxF c2 116 [u64 0], boxF bb 181 (cellsG D bo wo ro so bc wc rc sc mb), rowD bo 4 encDB D.banks, rowD wo 2 encDW D.ways, rowD ro 3 encR D.rights] (fun c : L5 => [v5 c]) (allL D) (fun G : Cont => mapG Tryz.prog 127 mb G) (fun G => entC D G) := by
 refine IsSeqK.introM Tryz.call150 Tryz.func150 rfl Tryz.ntmps150 rfl ?_; intro l J G W Rf hY; refine r_seq (r_region ?_); refine o_box1 rfl rfl rfl rfl rfl rfl (fun b3 => ?_); refine o_nil (r_then ?_); refine r_scope ?_; refine r_seq ?_; refine r_label ?_; refine r_then (r_seq ?_); refine Imp.sealB b3 ?_; refine r_region ?_; refine o_q _ rfl rfl rfl (v_lf1 rfl Tryz.underlying111 rfl rfl rfl) ?_; refine o_fnF (all_s bb) rfl rfl rfl rfl rfl SubRC.sub (fun x9 => ?_); refine o_nil (r_then ?_); refine r_block ?_; refine r_rangeG (all1_s D bo wo ro so bc wc rc sc bb mb x9 hg) rfl SubRC.sub (fun _ => rfl) rfl (fun (gh : Cont) i => exR fun (_ : Unit) => [J i, mapG Tryz.prog 127 mb gh]) (fun (gh : Cont) (_ : Nat) => entC D gh) (G) (M0 := ([] : List Res)) (M1 := J 0 :: mapG Tryz.prog 127 mb G :: []) SelMC.sel (fun w h => (St.pk () h).derive (fun V hV => hV _ (InR.mem (φ := entC D G)))) ?_ ?_
 ·
  intro l i x hx gh Mi Ri rdy bsy hbg; refine Imp.unpk2 (fun _ => ?_); refine ri_region ?_; refine oi_lift wideR rfl (fun _ _ h => h) ?_; refine o_alloc rfl inf123 rfl rfl rfl rfl rfl (fun b4 => ?_); refine o_nil (r_then ?_); refine oi_lift wideR rfl (fun _ _ h => h) ?_; refine o_st rfl inf123 rfl rfl rfl rfl rfl rfl rfl rfl ?_; refine o_nil (r_then ?_); refine oi_nil ?_; refine r_then ?_; refine r_begin hbg ?_; refine ri_block ?_; refine ri_seq ?_; refine Imp.box_to b4 (cells5 x) rfl ?_; have hin := allL_in hg (List.mem_of_getElem? hx); refine ri_region ?_; refine oi_lift wideR rfl (fun _ _ h => h) ?_; refine o_q _ rfl rfl rfl (v_lf1 rfl Tryz.underlying111 rfl rfl rfl) ?_; refine o_nil (r_then ?_); refine oi_lift wideR rfl (fun _ _ h => h) ?_; refine o_q _ rfl rfl rfl (v_ldW rfl Tryz.underlying123 rfl inf123 rfl rfl) ?_; refine o_nil (r_then ?_); refine oi_lift wideR rfl (fun _ _ h => h) ?_; refine o_q _ rfl rfl rfl (v_cast (v := layV x 0) (v_bSp rfl Tryz.underlying127 inf127 plt127 rfl rfl rfl (by repeat (first | exact trivial | refine ⟨rfl, ?_⟩)) (by show 5 ≤ 8; omega) (by rfl)) rfl) ?_; refine o_nil (r_then ?_); refine oi_lift wideR rfl (fun _ _ h => h) ?_; refine o_fnX (course_s D bo wo ro so bc wc rc sc bb mb hg x hin 0 (by decide) gh) rfl rfl rfl rfl rfl SubRC.sub (fun x14 _ => ?_); refine o_nil (r_then ?_); refine oi_lift wideR rfl (fun _ _ h => h) ?_; refine q_as rfl rfl rfl rfl rfl ?_; refine o_nil (r_then ?_); refine oi_nil ?_; refine r_then ?_; refine ri_seq ?_; refine ri_seq ?_; refine ri_region ?_; refine oi_lift wideR rfl (fun _ _ h => h) ?_; refine o_q _ rfl rfl rfl (v_lf1 rfl Tryz.underlying111 rfl rfl rfl) ?_; refine o_nil (r_then ?_); refine oi_lift wideR rfl (fun _ _ h => h) ?_; refine o_q _ rfl rfl rfl (v_nilCheck rfl rfl) ?_; refine o_nil (r_then ?_); refine oi_lift wideR rfl (fun _ _ h => h) ?_; refine o_q _ rfl rfl rfl (v_fieldAddr rfl Tryz.underlying181 inf30 rfl rfl rfl rfl) ?_; refine o_nil (r_then ?_); refine oi_lift wideR rfl (fun _ _ h => h) ?_; refine o_q _ rfl rfl rfl (v_fieldAddr rfl Tryz.underlying30 inf27 rfl rfl rfl rfl) ?_; refine o_nil (r_then ?_); refine oi_lift wideR rfl (fun _ _ h => h) ?_; refine o_q _ rfl rfl rfl (v_lf1 rfl Tryz.underlying27 rfl rfl rfl) ?_; refine o_nil (r_then ?_); refine oi_lift wideR rfl (fun _ _ h => h) ?_; refine o_q _ rfl rfl rfl (v_len rfl rfl Tryz.underlying27 rfl) ?_; refine o_nil (r_then ?_); refine oi_lift wideR rfl (fun _ _ h => h) ?_; refine q_mv rfl rfl rfl rfl rfl ?_; refine o_nil (r_then ?_); refine oi_nil ?_; refine r_then ?_; refine ri_block ?_; refine ri_once ?_; refine ri_seq ?_; refine ri_region ?_; refine oi_lift wideR rfl (fun _ _ h => h) ?_; refine o_q _ rfl rfl rfl (v_lss rfl rfl rfl) ?_; refine o_nil (r_then ?_); refine oi_nil ?_; refine r_then ?_; refine ri_seq ?_
  refine ri_condd rfl (fun hc22 => ?_) (fun hc22 => ?_)
  ·
   (exfalso; omega)
  ·
   refine ri_exit ?_; refine r_then_exit ?_; refine r_then_exit ?_; refine r_in_here ?_; refine r_then ?_; refine ri_seq ?_; refine ri_region ?_; refine oi_lift wideR rfl (fun _ _ h => h) ?_; refine o_q _ rfl rfl rfl (v_lf1 rfl Tryz.underlying128 rfl rfl rfl) ?_; refine o_nil (r_then ?_); refine oi_lift wideR rfl (fun _ _ h => h) ?_; refine o_q _ rfl rfl rfl (v_ldW rfl Tryz.underlying123 rfl inf123 rfl rfl) ?_; refine o_nil (r_then ?_); refine oi_yieldN hY hx SubRC.sub rfl rfl rfl rfl rfl rfl rfl ?_
   all_goals
    refine oi_lift wideR rfl (fun _ _ h => h) ?_; refine o_q _ rfl rfl rfl (v_not rfl rfl) ?_; refine o_nil (r_then ?_); refine oi_nil ?_; refine r_then ?_; refine ri_cond rfl (fun hc45 => ?_) (fun hc45 => ?_)
    ·
     (exfalso; revert hc45; decide)
    ·
     refine ri_skip ?_; (with_reducible refine r_in_normal ?_); exact r_roundG2 (r1 := fun _ i => J i) x14.1 SelMC.sel SubRC.sub
 ·
  intro gh db; refine Imp.unpk2 (fun _ => ?_); refine r_in_normal ?_; refine r_sc_normal ?_; exact m_retseqK gh (allL D).length rfl (Rd.none rfl) SelMC.sel SubRC.sub
end Go.Proofs.YtpndeonmmcaikaaGreat.DrW

namespace Go.Proofs.YtpndeonmmcaikaaGreat.DrW
open Go.G Foot4 Drain7
set_option maxRecDepth 1000000
attribute [local irreducible] G.ParO G.Fin
attribute [local irreducible] crs crK crP wat allL lvs sortedL preL nxL cntL
variable (D : Dr) (bo wo ro so : Option Addr) (bc wc rc sc : Nat) (bb mb : Nat)
set_option maxHeartbeats 4000000 in
theorem append_s (G : Cont) (c1 c2 : Nat) (hg : GoodD D) (hs : D.seen.length = 0) : FnS Tryz.prog 149 [.slice none 0 0, .func (.func 150) #[] #[pt c1 0, pt c2 0]] [mapG Tryz.prog 127 mb G] [entC D G, boxF c1 111 [pt bb 0], boxF c2 116 [u64 0], boxF bb 181 (cellsG D bo wo ro so bc wc rc sc mb), rowD bo 4 encDB D.banks, rowD wo 2 encDW D.ways, rowD ro 3 encR D.rights] (fun e M' R' => ∃ x : Cont × Option Addr × Nat, e = .returned (.slice x.2.1 (allL D).length x.2.2) ∧ True ∧ M' = [mapG Tryz.prog 127 mb x.1] ∧ R' = [entC D x.1, rowD x.2.1 5 encL (allL D)]) := by
 refine FnS.introM1 Tryz.call149 Tryz.func149 rfl Tryz.ntmps149 rfl ?_; intro W M Rf; refine r_seq (r_region ?_); refine o_box1 rfl rfl rfl rfl rfl rfl (fun b2 => ?_); refine q_as rfl rfl rfl rfl rfl ?_; refine o_nil (r_then (r_seq ?_)); refine r_seq ?_; refine Imp.nilL 123 5 encL ?_; have hal := allL_len hg; refine r_region ?_; refine q_mv rfl rfl rfl rfl rfl ?_; refine o_nil (r_then ?_); refine r_block ?_; refine r_rangeK (seen1_s D bo wo ro so bc wc rc sc bb mb c1 c2 hg hs) rfl SubRC.sub (fun _ => rfl) rfl (fun i => exR fun v => [bx b2 114 [v], ownL v 123 5 encL ((allL D).take (i))]) (G) (InR.mem) (M0 := M) (M1 := bx b2 114 [.slice none 0 0] :: ownL (.slice none 0 0) 123 5 encL ([] : List L5) :: mapG Tryz.prog 127 mb G :: M) SelMC.sel (fun w h => St.pk (N := fun v => [bx b2 114 [v], ownL v 123 5 encL ((allL D).take (0))]) (.slice none 0 0) h) ?_ ?_
 ·
  intro l i x hx Mi Ri rdy bsy hbg; refine Imp.unpk (fun v => ?_); simp only [List.cons_append, List.nil_append]; refine Imp.own_is v (fun hv9 => ?_); obtain ⟨oav, cpv, rfl⟩ := hv9; refine ri_region ?_; refine oi_lift wideR rfl (fun _ _ h => h) ?_; refine o_alloc rfl inf123 rfl rfl rfl rfl rfl (fun b5 => ?_); refine o_nil (r_then ?_); refine oi_lift wideR rfl (fun _ _ h => h) ?_; refine o_st rfl inf123 rfl rfl rfl rfl rfl rfl rfl rfl ?_; refine o_nil (r_then ?_); refine oi_nil ?_; refine r_then ?_; refine r_begin hbg ?_; refine ri_block ?_; have hle : ((allL D).take i).length ≤ i := List.length_take_le ..; have hle2 : ((allL D).take i).length ≤ 243 := Nat.le_trans (List.length_take_le' ..) hal; refine ri_region ?_; refine oi_lift wideR rfl (fun _ _ h => h) ?_; refine o_q _ rfl rfl rfl (v_ld1 rfl Tryz.underlying114 rfl rfl rfl) ?_; refine o_nil (r_then ?_); refine oi_lift wideR rfl (fun _ _ h => h) ?_; refine o_q _ rfl rfl rfl (v_ldW rfl Tryz.underlying123 rfl inf123 rfl rfl) ?_; refine o_nil (r_then ?_); refine oi_lift wideR rfl (fun _ _ h => h) ?_; refine o_lit rfl Tryz.underlying114 inf123 rfl rfl rfl rfl rfl rfl rfl rfl (by repeat (first | exact trivial | refine ⟨rfl, ?_⟩)) (by rfl) (fun b10 => ?_); refine o_nil (r_then ?_); refine oi_lift wideR rfl (fun _ _ h => h) ?_; refine o_app1 (x) rfl Tryz.underlying114 inf123 rfl (by rfl) (by rfl) rfl rfl rfl rfl rfl (by rfl) (by rfl) (by rfl) (by first | omega | (constructor <;> first | omega | decide)) (fun v11 => ?_); refine o_nil (r_then ?_); refine Imp.own_is v11 (fun hv8 => ?_); obtain ⟨oa11, cp11, rfl⟩ := hv8; refine oi_lift wideR rfl (fun _ _ h => h) ?_; refine o_st rfl inf114 rfl rfl rfl rfl rfl rfl rfl rfl ?_; refine o_nil (r_then ?_); refine oi_nil ?_; (with_reducible refine r_in_normal ?_); refine Imp.own_to (.slice oa11 ((allL D).take i ++ [x]).length cp11) ((allL D).take (i + 1)) (by rw [List.take_add_one, hx]; rfl) ?_; refine Imp.box_to b2 [.slice oa11 ((allL D).take i ++ [x]).length cp11] (by rfl) ?_; exact r_roundNP (N := fun i v => [bx b2 114 [v], ownL v 123 5 encL ((allL D).take (i))]) (.slice oa11 ((allL D).take i ++ [x]).length cp11) SelMC.sel SubRC.sub
 ·
  intro gk db; refine Imp.unpk (fun v => ?_); simp only [List.cons_append, List.nil_append]; refine Imp.own_is v (fun hv9 => ?_); obtain ⟨oav, cpv, rfl⟩ := hv9; refine r_in_normal ?_; refine r_then (r_seq (r_region ?_)); refine o_q _ rfl rfl rfl (v_ld1 rfl Tryz.underlying114 rfl rfl rfl) ?_; refine q_as rfl rfl rfl rfl rfl ?_; refine o_nil (r_then ?_); refine r_ret ?_; refine Imp.own_to (.slice oav ((allL D).take (allL D).length).length cpv) (allL D) List.take_length ?_; rw [List.take_length]; refine Imp.settleS (.slice oav (allL D).length cpv) encL_len (fun oz cz hz => ?_); exact m_rete [mapG Tryz.prog 127 mb gk] [entC D gk, rowD oz 5 encL (allL D)] (Rd.tmp rfl rfl) ⟨(gk, oz, cz), by rw [← hz], trivial, rfl, rfl⟩ SelMC.sel SubRC.sub
set_option maxHeartbeats 4000000 in
theorem collect_s (G : Cont) (c1 c2 : Nat) (hg : GoodD D) (hs : D.seen.length = 0) : FnS Tryz.prog 106 [.func (.func 150) #[] #[pt c1 0, pt c2 0]] [mapG Tryz.prog 127 mb G] [entC D G, boxF c1 111 [pt bb 0], boxF c2 116 [u64 0], boxF bb 181 (cellsG D bo wo ro so bc wc rc sc mb), rowD bo 4 encDB D.banks, rowD wo 2 encDW D.ways, rowD ro 3 encR D.rights] (fun e M' R' => ∃ x : Cont × Option Addr × Nat, e = .returned (.slice x.2.1 (allL D).length x.2.2) ∧ True ∧ M' = [mapG Tryz.prog 127 mb x.1] ∧ R' = [entC D x.1, rowD x.2.1 5 encL (allL D)]) := by
 refine FnS.intro1 Tryz.call106 Tryz.func106 rfl Tryz.ntmps106 rfl ?_; intro W M Rf; refine r_seq (r_region ?_); refine q_as rfl rfl rfl rfl rfl ?_; refine o_nil (r_then (r_seq (r_region ?_))); refine q_mv rfl rfl rfl rfl rfl ?_; refine o_fnX (append_s D bo wo ro so bc wc rc sc bb mb G c1 c2 hg hs) rfl rfl rfl rfl rfl SubRC.sub (fun x4 _ => ?_); refine q_as rfl rfl rfl rfl rfl ?_; refine o_nil (r_then ?_); refine r_ret ?_; exact r_rete [mapG Tryz.prog 127 mb x4.1] [entC D x4.1, rowD x4.2.1 5 encL (allL D)] (Rd.tmp rfl rfl) ⟨x4, rfl, trivial, rfl, rfl⟩ SelMC.sel SubRC.sub
set_option maxHeartbeats 4000000 in
theorem known_s (G : Cont) (hg : GoodD D) (hs : D.seen.length = 0) : FnS Tryz.prog 50 [pt bb 0] [mapG Tryz.prog 127 mb G] [entC D G, boxF bb 181 (cellsG D bo wo ro so bc wc rc sc mb), rowD bo 4 encDB D.banks, rowD wo 2 encDW D.ways, rowD ro 3 encR D.rights] (fun e M' R' => ∃ x : Cont × Option Addr × Nat, e = .returned (.slice x.2.1 (allL D).length x.2.2) ∧ True ∧ M' = [mapG Tryz.prog 127 mb x.1] ∧ R' = [entC D x.1, rowD x.2.1 5 encL (allL D)]) := by
 refine FnS.intro1 Tryz.call50 Tryz.func50 rfl Tryz.ntmps50 rfl ?_; intro W M Rf; refine r_seq (r_region ?_); refine q_as rfl rfl rfl rfl rfl ?_; refine o_nil (r_then (r_seq (r_region ?_))); refine q_mv rfl rfl rfl rfl rfl ?_; refine q_mv rfl rfl rfl rfl rfl ?_; refine o_q _ rfl rfl rfl (OpQ.fn (every_v D bo wo ro so bc wc rc sc bb mb hs) rfl rfl SubRC.sub) ?_; refine o_fnF (seen_s bb 0) rfl rfl rfl rfl rfl SubRC.sub (fun x7 => ?_); refine o_fnX (collect_s D bo wo ro so bc wc rc sc bb mb G x7.1 x7.2 hg hs) rfl rfl rfl rfl rfl SubRC.sub (fun x8 _ => ?_); refine q_as rfl rfl rfl rfl rfl ?_; refine o_nil (r_then (r_seq (r_region ?_))); refine q_mv rfl rfl rfl rfl rfl ?_; refine o_q _ rfl rfl rfl (v_len rfl rfl Tryz.underlying114 rfl) ?_; refine o_q _ rfl rfl rfl (v_cast (v := .bool true) (v_gtr rfl rfl rfl) (congrArg Value.bool (decide_eq_true (by have := allL_pos hg; omega)))) ?_; refine o_q _ rfl rfl rfl (OpQ.fn (mustD_t _) rfl rfl SubRC.sub) ?_; refine o_nil (r_then (r_seq (r_region ?_))); refine q_mv rfl rfl rfl rfl rfl ?_; refine q_as rfl rfl rfl rfl rfl ?_; refine o_nil (r_then ?_); refine r_ret ?_; exact r_rete [mapG Tryz.prog 127 mb x8.1] [entC D x8.1, rowD x8.2.1 5 encL (allL D)] (Rd.tmp rfl rfl) ⟨x8, rfl, trivial, rfl, rfl⟩ SelMC.sel SubRC.sub
end Go.Proofs.YtpndeonmmcaikaaGreat.DrW
