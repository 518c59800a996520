/- Part 2 of 5 of what the proofs of this seat stand on: a small logic for walks, what the functions come to, and the walks themselves. No condition of its own. -/
import Derived.Test.YtpndeonmmcaikaaL1
import Derived.DeepKeys5
import Derived.WideKeyMaps
import Derived.Laws.MakeOwn
import Derived.Laws.CopyRow
import Derived.ChangeKeysEq
import Derived.Maps.Keyed
import Derived.OrdersIn
import Derived.Deep.Slices
import Derived.ProofKit
import Derived.OpenShut
set_option linter.unusedVariables false
set_option linter.unusedSimpArgs false
set_option linter.unusedSectionVars false
namespace Go.G
variable {P : Program} {W : World} {n : Nat} {D : List Deferred} {L : Tm} {M : List Res} {R : List Fact} {Q : Exit → Act → World → Prop} {o : Oper}

/-- It hands back a value of which something holds, and keeps a resource. -/
structure FnM (P : Program) (k : FuncId) (args : List Value) (m : Res) (R0 : List Fact) (val : Value → Prop) : Prop where
  enter : ∀ (ag : Array Value) (w : World), (callFunc k ag).run P w = .ok (.enter k ag) w
  calls : ∀ W M Rf w, St W (m :: M) (R0 ++ Rf) w → Calls P k args.toArray w fun e w' => ∃ v, e = .returned v ∧ val v ∧ St W (m :: M) (R0 ++ Rf) w'
theorem FnM.use {k : FuncId} {args : List Value} {m : Res} {R0 : List Fact} {val : Value → Prop} {M' : List Res} (h : FnM P k args m R0 val) (hs : SubR R R0) (hd : Del M m M') {w : World} (hw : St W M R w) :
    Calls P k args.toArray w fun e w' => ∃ v, e = .returned v ∧ val v ∧ St W M R w' :=
  (h.calls W M' R w ((hw.perm hd.perm).both hs)).mono fun _ _ ⟨v, he, hv, hs'⟩ => ⟨v, he, hv, (hs'.weak (fun _ hφ => List.mem_append_right _ hφ)).perm hd.perm.symm⟩
def RetM (W : World) (m : Res) (M : List Res) (R : List Fact) (val : Value → Prop) (e : Ending) (w' : World) : Prop := ∃ v, e = .returned v ∧ val v ∧ St W (m :: M) R w'
theorem FnM.intro {k : FuncId} {args : List Value} {m : Res} {R0 : List Fact} {val : Value → Prop} {fn : Func} {c : Code} (he : ∀ (ag : Array Value) (w : World), (callFunc k ag).run P w = .ok (.enter k ag) w)
    (hf : P.funcs[k]? = some fn) (hb : fn.body = some c) (hn : fn.ntmps = n) (ha : Nat.ble args.length n = true)
    (h : ∀ W M Rf, Imp W n [] (argsL args 0) (m :: M) (R0 ++ Rf) (c.wp P (bodyPost P fn (RetM W m M (R0 ++ Rf) val)))) : FnM P k args m R0 val := by
  refine ⟨he, fun W M Rf w hw => calls_of_wp hf hb ?_⟩
  rw [hn]
  exact h W M Rf _ w (FSat.entry (Nat.le_of_ble_eq_true ha)) rfl hw
theorem r_retm {fn : Func} {m : Res} {M0 : List Res} {R0 : List Fact} {val : Value → Prop} {v : Value} (hr : Rd P W n L M R fn v) (hv : val v) (hM : SelM M (m :: M0)) (hR : SubR R R0) : Imp W n [] L M R (bodyPost P fn (RetM W m M0 R0 val) .ret) :=
  fun a w h1 h2 h3 => ⟨h2, v, hr a w h1 h3, v, rfl, hv, (h3.sel hM).weak hR⟩
/-! ### what a map remembers -/
def memo (P : Program) (k : TypeId) (ok : Value → Value → Prop) (b : Nat) : Res := fun s => ∃ es clock, s = [(b, .map es clock)] ∧ ∀ e ∈ es.toList, (∃ l, keyOf P k e.key = some l) ∧ ok e.key e.val
theorem o_makeMap {ops : Array Oper} {rest : List Oper} {T k : TypeId} {d : Nat} (ok : Value → Value → Prop) (ho : o.op = .makeMap T none) (hg : o.guard = none) (hdst : o.dst = some d) (hd : Nat.blt d n = true)
    (h : ∀ b, Imp W n D ((d, .map (some b)) :: L) (memo P k ok b :: M) R (wpList P ops Q rest)) : Imp W n D L M R (wpList P ops Q (o :: rest)) := by
  intro a w h1 h2 h3
  refine wpList_plain hg fun K hK => ?_
  unfold Oper.wp
  have hrun : (execOp a.eval o).run P w = .ok (.value (.map (some w.heap.size))) (w.alloc (.map #[] 0)) := by
    unfold execOp
    simp only [ho]
    rfl
  rw [hrun, Oper.upon_value, hdst]
  refine hK _ _ (h w.heap.size _ _ (h1.put (by simpa using hd) _) (by rw [put_defers]; exact h2) ?_)
  have h4 := h3.push (.map #[] 0)
  obtain ⟨s, ⟨s1, s2, rfl, hs1, hM⟩, hO, hR⟩ := h4.mem
  exact ⟨h4.os, h4.tape, h4.output, s1 ++ s2, ⟨s1, s2, rfl, ⟨#[], 0, hs1, by simp⟩, hM⟩, hO, hR⟩
theorem memo_at {k : TypeId} {ok : Value → Value → Prop} {b : Nat} {M' : List Res} {w : World} (h : St W M R w) (hd : Del M (memo P k ok b) M') : ∃ es clock, w.heap[b]? = some (.map es clock) ∧ ∀ e ∈ es.toList, (∃ l, keyOf P k e.key = some l) ∧ ok e.key e.val := by
  obtain ⟨A, B, rfl, _⟩ := hd
  obtain ⟨s, ⟨es, clock, hs, hall⟩, hO⟩ := h.res (Upd.of_mem (List.mem_append_right A (List.mem_cons_self ..)))
  subst hs
  exact ⟨es, clock, hO.at_ (b, .map es clock) (by simp), hall⟩
theorem o_lookup {ops : Array Oper} {rest : List Oper} {T k e : TypeId} {x y : Operand} {b d : Nat} {kv z : Value} {l : Lit} {i : TypeInfo} {ok : Value → Value → Prop} {M' : List Res} [hM : DelC M (memo P k ok b) M'] (hl : WideMaps.KeyLaw P k) (hk : keyOf P k kv = some l)
    (ho : o.op = .lookup T x y true) (hT : P.underlying T = some (.map k e)) (hi : P.info? e = some i) (hz : i.zero = some z) (hg : o.guard = none) (hdst : o.dst = some d) (hd : Nat.blt d n = true)
    (hx : ev L x = some (.map (some b))) (hy : ev L y = some kv)
    (hyes : ∀ v, ok kv v → Imp W n D ((d, .tuple #[v, .bool true]) :: L) M R (wpList P ops Q rest)) (hno : Imp W n D ((d, .tuple #[z, .bool false]) :: L) M R (wpList P ops Q rest)) : Imp W n D L M R (wpList P ops Q (o :: rest)) := by
  intro a w h1 h2 h3
  refine wpList_plain hg fun K hK => ?_
  unfold Oper.wp
  obtain ⟨es, clock, hb, hall⟩ := memo_at h3 hM.del
  have hz' : (zeroValue e).run P w = .ok z w := run_zeroValue' hi hz
  have key : ∀ ρ : Operand → Value, ρ x = .map (some b) → ρ y = kv → (∃ v, ok kv v ∧ (execOp ρ o).run P w = .ok (.value (.tuple #[v, .bool true])) w) ∨ (execOp ρ o).run P w = .ok (.value (.tuple #[z, .bool false])) w := by
    intro ρ e1 e2
    rcases hl.find w hk es.toList (fun e he => (hall e he).1) with ⟨hf, _⟩ | ⟨j, e', hf, hj, he'⟩
    · right
      unfold execOp
      simp [ho, e1, e2, Instr.lookup, run_underlying hT, getObj, Sem.run, hb, hl.check w _ hk, hf, hz', Sem.run_bind, Sem.run_pure, Result.andThen]
    · left
      have hm := hall e' (List.mem_of_getElem? hj)
      rw [he'] at hm
      refine ⟨e'.val, hm.2, ?_⟩
      unfold execOp
      simp [ho, e1, e2, Instr.lookup, run_underlying hT, getObj, Sem.run, hb, hl.check w _ hk, hf, Sem.run_bind, Sem.run_pure, Result.andThen]
  rcases key _ (h1.ev hx) (h1.ev hy) with ⟨v, hv, hr⟩ | hr
  · rw [hr, Oper.upon_value, hdst]
    exact hK _ _ (hyes v hv _ w (h1.put (by simpa using hd) _) (by rw [put_defers]; exact h2) h3)
  · rw [hr, Oper.upon_value, hdst]
    exact hK _ _ (hno _ w (h1.put (by simpa using hd) _) (by rw [put_defers]; exact h2) h3)
theorem o_mapUpdate {ops : Array Oper} {rest : List Oper} {T k e : TypeId} {x y v : Operand} {b : Nat} {kv u : Value} {l : Lit} {ok : Value → Value → Prop} {M' : List Res} [hM : DelC M (memo P k ok b) M'] (hl : WideMaps.KeyLaw P k) (hk : keyOf P k kv = some l)
    (ho : o.op = .mapUpdate T x y v) (hT : P.underlying T = some (.map k e)) (hg : o.guard = none) (hdst : o.dst = none)
    (hx : ev L x = some (.map (some b))) (hy : ev L y = some kv) (hv : ev L v = some u) (hok : ok kv u)
    (h : Imp W n D L (memo P k ok b :: M') R (wpList P ops Q rest)) : Imp W n D L M R (wpList P ops Q (o :: rest)) := by
  intro a w h1 h2 h3
  refine wpList_plain hg fun K hK => ?_
  unfold Oper.wp
  obtain ⟨es, clock, hb, hall⟩ := memo_at h3 hM.del
  have hlt : b < w.heap.size := (Array.getElem?_eq_some_iff.1 hb).1
  have key : ∀ ρ : Operand → Value, ρ x = .map (some b) → ρ y = kv → ρ v = u → ∃ es' clock', (execOp ρ o).run P w = .ok .skip (w.putObj b (.map es' clock')) ∧ ∀ e ∈ es'.toList, (∃ l, keyOf P k e.key = some l) ∧ ok e.key e.val := by
    intro ρ e1 e2 e3
    rcases hl.find w hk es.toList (fun e he => (hall e he).1) with ⟨hf, _⟩ | ⟨j, e', hf, hj, he'⟩
    · refine ⟨es.push { key := kv, val := u, born := clock }, clock + 1, ?_, ?_⟩
      · unfold execOp
        simp [ho, e1, e2, e3, Instr.mapUpdate, run_underlying hT, getObj, setObj, Sem.run, hb, hl.check w _ hk, hf, Sem.run_bind, Sem.run_pure, Result.andThen, World.putObj]
      · intro e he
        rcases List.mem_append.1 (by simpa using he : e ∈ es.toList ++ [{ key := kv, val := u, born := clock }]) with he | he
        · exact hall e he
        · have : e = { key := kv, val := u, born := clock } := by simpa using he
          subst this
          exact ⟨⟨l, hk⟩, hok⟩
    · have hst := hl.stays w hk
      have hj' : es[j]? = some e' := by simpa using hj
      refine ⟨es.modify j fun e => { e with key := kv, val := u }, clock, ?_, ?_⟩
      · unfold execOp
        simp [ho, e1, e2, e3, Instr.mapUpdate, run_underlying hT, getObj, setObj, Sem.run, hb, hl.check w _ hk, hf, hj', he', hst, Sem.run_bind, Sem.run_pure, Result.andThen, World.putObj]
      · intro e he
        obtain ⟨m, hm⟩ := List.mem_iff_getElem?.1 he
        have hm' : (es.modify j fun e => { e with key := kv, val := u })[m]? = some e := by rw [← Array.getElem?_toList]; exact hm
        by_cases hjm : j = m
        · subst hjm
          rw [Array.getElem?_modify, if_pos rfl, hj'] at hm'
          have : e = { e' with key := kv, val := u } := by simpa using hm'.symm
          subst this
          exact ⟨⟨l, hk⟩, hok⟩
        · rw [Array.getElem?_modify, if_neg hjm] at hm'
          exact hall e (List.mem_of_getElem? (by simpa using hm'))
  obtain ⟨es', clock', hr, hall'⟩ := key _ (h1.ev hx) (h1.ev hy) (h1.ev hv)
  rw [hr, Oper.upon_skip, hdst]
  have h4 := h3.perm hM.del.perm
  refine hK _ _ (h a _ h1 h2 ?_)
  refine h4.replace Upd.here rfl rfl rfl ?_
  rintro s ⟨es1, clock1, rfl, _⟩ hO
  refine ⟨[(b, .map es' clock')], ⟨es', clock', rfl, hall'⟩, ⟨by simp [keys], ?_⟩, ?_, ?_⟩
  · intro p hp
    have : p = (b, .map es' clock') := by simpa using hp
    subst this
    exact World.putObj_heap_same hlt
  · intro c hc; exact .inl (by simpa [keys] using hc)
  · intro c _ hc
    exact World.putObj_heap_other (by intro e; subst e; exact hc (by simp [keys]))
end Go.G


namespace Go.G
variable {P : Program} {W : World} {n : Nat} {D : List Deferred} {L : Tm} {M : List Res} {R : List Fact} {Q : Exit → Act → World → Prop} {o : Oper}
def sblk : Value → Nat
  | .slice (some a) _ _ => a.block
  | _ => 0
theorem p_lit {ops : Array Oper} {K : List Spc → Prop} {rest : List Oper} {acc : List Spc} {t e : TypeId} {ps : List (Nat × Operand)} {vs : List Value} {len : Nat} {i : TypeInfo} {z : Value} {cs : List Value} {d : Nat} (ho : o.op = .buildSlice t len ps.toArray) (ht : P.underlying t = some (.slice e)) (hi : P.info? e = some i) (hz : i.zero = some z)
    (hbig : Nat.ble (len * i.size) 16777216 = true) (hpos : Nat.beq (len * i.size) 0 = false) (hg : o.guard = none) (hdst : o.dst = some d) (hd : Nat.blt d n = true)
    (hx : evs L (ps.map (·.2)) = some vs) (hk : ps.map (·.1) = List.range ps.length) (hp : PlaceOK (fun k => some (k * i.size, i.size)) 0 0 vs) [hc : CatC vs cs] (hl : cs.length = len * i.size)
    (hr : ParO P W n M R ops K rest (acc ++ [Spc.g (fun v => v = .slice (some ⟨sblk v, 0, none⟩) len len) (fun _ => []) (fun v => [boxF (sblk v) e cs])]) L) : ParO P W n M R ops K (o :: rest) acc L := by
  refine ⟨Spc.g (fun v => v = .slice (some ⟨sblk v, 0, none⟩) len len) (fun _ => []) (fun v => [boxF (sblk v) e cs]), by simp [hdst, hd], .inl ⟨rfl, .inl ⟨.inl hg, ?_⟩⟩, by simpa [addL, Spc.g] using hr⟩
  intro Mx Rx a w g1 g3
  have hu := parts_eq g1 hx hk
  have hb1 : ¬ (2 ^ 24 < len * i.size) := by
    have : len * i.size ≤ 16777216 := by simpa using hbig
    omega
  have hb2 : ¬ (len * i.size = 0) := fun e => by rw [e] at hpos; cases hpos
  have hf := fill_all (cells := (Array.range (len * i.size)).map (fun k => z.cells[k % z.cells.size]!)) hp hc.cat (by simpa using hl)
  have hrun : (execOp a.eval o).run P w = .ok (.value (.slice (some ⟨w.heap.size, 0, none⟩) len len)) (w.alloc (.cells cs.toArray e)) := by
    simp only [execOp, ho, Instr.buildSlice, Sem.run_bind, run_underlying ht, run_sizeOf' hi, Result.andThen_ok, gt_iff_lt, hb1, hb2, if_false, run_zeroValue' hi hz, Sem.run_pure, List.map_toArray, hu, hf]
    simp [newRow, newObj, Sem.run]
  rw [hrun]
  refine ⟨rfl, ?_⟩
  have h4 : St W (bx w.heap.size e cs :: (Mx ++ M)) (Rx ++ R) (w.alloc (.cells cs.toArray e)) := g3.push _
  refine (h4.seal_.derive (ψ := boxF w.heap.size e cs) fun V hV => ?_).weak ?_
  · obtain ⟨s, hs, hp⟩ := hV (sealed (bx w.heap.size e cs)) (by simp)
    have hs' : s = [(w.heap.size, .cells cs.toArray e (0, 0))] := hs
    subst hs'
    exact hp (w.heap.size, .cells cs.toArray e (0, 0)) (by simp)
  · intro φ hφ
    rcases List.mem_append.1 hφ with h | h
    · have : φ = boxF w.heap.size e cs := by simpa [Spc.fs, Spc.g, sblk] using h
      subst this; simp
    · exact List.mem_cons_of_mem _ (List.mem_cons_of_mem _ h)
/-- An operation that uses what an earlier one, j, has come to. -/
theorem p_dep {ops : Array Oper} {K : List Spc → Prop} {rest : List Oper} {acc : List Spc} {d : Nat} {v : Value} (j : Nat) {oj : Oper} {sj : Spc} (hoj : ops[j]? = some oj) (hsj : acc[j]? = some sj) (hdj : sj.det = none) (hdep : depD ops o j = true) (hg : o.guard = none) (hdst : o.dst = some d) (hd : Nat.blt d n = true)
    (ho : ∀ u, sj.pval u → ∀ Mx Rx, OpQ P W n ((oj.dst.getD 1000000, u) :: L) (Mx ++ M) (Rx ++ (sj.fct u ++ R)) o v) (h : ParO P W n M R ops K rest (acc ++ [Spc.q v]) ((d, v) :: L)) : ParO P W n M R ops K (o :: rest) acc L :=
  ⟨Spc.q v, by simp [hdst, hd], .inl ⟨rfl, .inr (.inr (.inl ⟨hg, j, oj, sj, hoj, hsj, hdj, hdep, fun u hu => OpG.of_q (ho u hu)⟩))⟩, by simpa [addL, Spc.q, hdst] using h⟩
/-- A slice's own block, as an owned slice. -/
theorem Imp.ownBox {α : Type} {enc : α → List Value} {sz : Nat} {T : TypeId} {cs : List Value} {M' : List Res} {X : Act → World → Prop} (b : Nat) (xs : List α) [hd : DelBox b M T cs M'] (e : cs = xs.flatMap enc) (hl : cs.length = xs.length * sz) (hm : xs.length ≤ maxLen)
    (h : Imp W n D L (ownL (.slice (some ⟨b, 0, none⟩) xs.length xs.length) T sz enc xs :: M') R X) : Imp W n D L M R X := by
  intro a w h1 h2 h3
  refine h a w h1 h2 ?_
  have h4 : St W (bx b T cs :: M') R w := h3.perm hd.del.perm
  obtain ⟨s, ⟨s1, s2, rfl, hs1, hM⟩, hO, hR⟩ := h4.mem
  refine ⟨h4.os, h4.tape, h4.output, s1 ++ s2, ⟨s1, s2, rfl, ?_, hM⟩, hO, hR⟩
  have hs' : s1 = [(b, .cells cs.toArray T (0, 0))] := hs1
  subst e
  refine ⟨hl, .inr ⟨b, xs.length, (xs.flatMap enc).toArray, rfl, Nat.le_refl _, hm, by simpa using hl, ?_, hs'⟩⟩
  rw [← hl]; exact List.take_length
end Go.G


namespace Go.G
variable {P : Program} {W : World} {n : Nat} {D : List Deferred} {L : Tm} {M : List Res} {R : List Fact} {Q : Exit → Act → World → Prop} {o : Oper}
instance (priority := 90) DelC.app {A M M' : List Res} {r : Res} [h : DelC M r M'] : DelC (A ++ M) r (A ++ M') := ⟨by
  obtain ⟨X, Y, h1, h2⟩ := h.del
  exact ⟨A ++ X, Y, by simp [h1], by simp [h2]⟩⟩
theorem OpQ.fnm {k : FuncId} {args : List Value} {m : Res} {R0 : List Fact} {v : Value} {f : Operand} {xs : List Operand} {ts : Array TypeId} {vs : List Value} {M' : List Res}
    (h : FnM P k args m R0 (fun u => u = v)) (ho : o.op = .call { callee := .value f, args := xs.toArray, argTypes := ts }) (first captured : List Value) (hf : ev L f = some (.func (.func k) first.toArray captured.toArray))
    (hx : evs L xs = some vs) (ha : first ++ vs ++ captured = args) (hs : SubR R R0) [hM : DelC M m M'] : OpQ P W n L M R o v := by
  intro a w h1 h2
  unfold Oper.quietAt
  rw [exec_call first captured ho (h1.ev hf) (h1.evs hx) h.enter, ha]
  exact ⟨rfl, (h.use hs hM.del h2).mono fun e w' ⟨u, he, hu, hs'⟩ => ⟨by rw [he, hu], hs'⟩⟩
theorem v_cast {u v : Value} (h : OpQ P W n L M R o u) (e : u = v) : OpQ P W n L M R o v := e ▸ h
/-- The contract under facts that say at least as much. -/
theorem FnV.pre {k : FuncId} {args : List Value} {R1 R2 : List Fact} {v : Value} (h : FnV P k args R1 v) (hd : ∀ V, (∀ φ ∈ R2, φ V) → ∀ φ ∈ R1, φ V) : FnV P k args R2 v := by
  refine ⟨h.enter, fun W M Rf w hw => ?_⟩
  have key : ∀ (S : List Fact), (∀ φ ∈ S, φ ∈ R1) → St W M (S ++ (R2 ++ Rf)) w := by
    intro S
    induction S with
    | nil => intro _; exact hw
    | cons φ S ih =>
      intro hS
      exact (ih (fun ψ hψ => hS ψ (by simp [hψ]))).derive fun V hV => hd V (fun ψ hψ => hV ψ (by simp [hψ])) φ (hS φ (by simp))
  exact (h.calls W M (R2 ++ Rf) w (key R1 (fun _ h => h))).mono fun e w' ⟨he, hs⟩ => ⟨he, hs.weak fun φ hφ => List.mem_append_right _ hφ⟩
/-- 'append(s, x)', x's block known for good. -/
theorem o_app1F {α : Type} {enc : α → List Value} {sz : Nat} {v : Value} {xs : List α} {M' : List Res} {ops : Array Oper} {rest : List Oper} {s x : Operand} {t e B : TypeId} {i : TypeInfo} {z : Value} {c d b : Nat} {news : List Value} [hM : HasOwn v M e sz enc xs M'] [hm : HasBoxF b R B news] (y : α) (ho : o.op = .call { callee := .builtin .append, args := #[s, x], argTypes := #[t, t] })
    (ht : P.underlying t = some (.slice e)) (hi : P.info? e = some i) (hz : i.zero = some z) (hsz : i.size = sz) (hzs : z.cells.size = sz) (hg : o.guard = none) (hdst : o.dst = some d) (hd : Nat.blt d n = true)
    (hs : ev L s = some v) (hx : ev L x = some (.slice (some ⟨b, 0, none⟩) 1 c)) (hy : news = enc y) (hl : news.length = sz) (h1 : oneCells news = true) (hbd : xs.length ≤ 1000000 ∧ i.bytes ≤ 1000000)
    (h : ∀ v', Imp W n D ((d, v') :: L) (ownL v' e sz enc (xs ++ [y]) :: M') R (wpList P ops Q rest)) : Imp W n D L M R (wpList P ops Q (o :: rest)) := by
  subst hy
  have hby : (xs.length + 1) * i.bytes ≤ 140737488355328 := by
    have : (xs.length + 1) * i.bytes ≤ 1000001 * 1000000 := Nat.mul_le_mul (by omega) hbd.2
    omega
  intro a w g1 g2 g3
  refine wpList_plain hg fun K hK => ?_
  unfold Oper.wp
  have hM' : Del M (own v e sz xs.length (xs.flatMap enc)) M' := hM.del
  obtain ⟨v', w', hr, hw'⟩ := run_append (P := P) (ty := o.type) (c := c) (k := 1) g3 ht hi hz hsz hzs (fun j u hu => by rw [add_at, g3.cellF hm.mem, Nat.zero_add]; exact hu) (by simpa using hl) (oneCells_mem h1) (by simp only [maxLen]; omega) hby hM'
  have hrun : (execOp a.eval o).run P w = .ok (.value v') w' := by
    unfold execOp
    simp only [ho, resolve, invoke, builtin, Sem.run_bind, Sem.run_pure, Result.andThen_ok, List.map_toArray, List.map_cons, List.map_nil, g1.ev hs, g1.ev hx, hr]
  rw [hrun, Oper.upon_value, hdst]
  have h5 := h v'
  unfold ownL at h5
  refine hK _ _ (h5 _ w' (g1.put (by simpa using hd) v') (by rw [put_defers]; exact g2) ?_)
  simpa using hw'
/-- A look-up in a memo that fixes what is found. -/
theorem o_lookupD {ops : Array Oper} {rest : List Oper} {T k e : TypeId} {x y : Operand} {b d : Nat} {kv z : Value} {l : Lit} {i : TypeInfo} {ok : Value → Value → Prop} {M' : List Res} [hM : DelC M (memo P k ok b) M'] (v : Value) (hv : ∀ u, ok kv u → u = v) (hl : WideMaps.KeyLaw P k) (hk : keyOf P k kv = some l)
    (ho : o.op = .lookup T x y true) (hT : P.underlying T = some (.map k e)) (hi : P.info? e = some i) (hz : i.zero = some z) (hg : o.guard = none) (hdst : o.dst = some d) (hd : Nat.blt d n = true)
    (hx : ev L x = some (.map (some b))) (hy : ev L y = some kv)
    (hyes : Imp W n D ((d, .tuple #[v, .bool true]) :: L) M R (wpList P ops Q rest)) (hno : Imp W n D ((d, .tuple #[z, .bool false]) :: L) M R (wpList P ops Q rest)) : Imp W n D L M R (wpList P ops Q (o :: rest)) :=
  o_lookup hl hk ho hT hi hz hg hdst hd hx hy (fun u hu => by rw [hv u hu]; exact hyes) hno
/-- A slice laid in the free part. -/
abbrev Spc.lit (len : Nat) (e : TypeId) (cs : List Value) : Spc := Spc.g (fun v => v = .slice (some ⟨sblk v, 0, none⟩) len len) (fun _ => []) (fun v => [boxF (sblk v) e cs])
theorem p_depLit {ops : Array Oper} {K : List Spc → Prop} {rest : List Oper} {acc : List Spc} {d : Nat} {v : Value} (j : Nat) {oj : Oper} {len : Nat} {e : TypeId} {cs : List Value} (hoj : ops[j]? = some oj) (hsj : acc[j]? = some (Spc.lit len e cs)) (hdep : depD ops o j = true) (hg : o.guard = none) (hdst : o.dst = some d) (hd : Nat.blt d n = true)
    (ho : ∀ b Mx Rx, OpQ P W n ((oj.dst.getD 1000000, .slice (some ⟨b, 0, none⟩) len len) :: L) (Mx ++ M) (Rx ++ (boxF b e cs :: R)) o v) (h : ParO P W n M R ops K rest (acc ++ [Spc.q v]) ((d, v) :: L)) : ParO P W n M R ops K (o :: rest) acc L :=
  p_dep j hoj hsj rfl hdep hg hdst hd (fun u hu Mx Rx => by
    have := ho (sblk u) Mx Rx
    rw [← (show u = .slice (some ⟨sblk u, 0, none⟩) len len from hu)] at this
    exact this) h
theorem p_acc {ops : Array Oper} {K : List Spc → Prop} {l : List Oper} {acc acc' : List Spc} (e : acc = acc') (h : ParO P W n M R ops K l acc' L) : ParO P W n M R ops K l acc L := by
  subst e; exact h
theorem f_lit {X : Act → World → Prop} {os : List Oper} {ss : List Spc} {len : Nat} {e : TypeId} {cs : List Value} {d : Nat} (hdst : o.dst = some d) (h : ∀ b, Fin W n D X os ss ((d, .slice (some ⟨b, 0, none⟩) len len) :: L) M (boxF b e cs :: R)) : Fin W n D X (o :: os) (Spc.lit len e cs :: ss) L M R :=
  f_g hdst (fun v hv => by
    have := h (sblk v)
    rw [← (show v = .slice (some ⟨sblk v, 0, none⟩) len len from hv)] at this
    exact this)
/-- An owned slice is handed over for good, and is seen to be a slice. -/
theorem Imp.settleS {α : Type} {enc : α → List Value} {sz : Nat} {T : TypeId} {xs : List α} {M' : List Res} {X : Act → World → Prop} (v : Value) [hd : HasOwn v M T sz enc xs M'] (henc : ∀ x, (enc x).length = sz) (h : ∀ oa cap, v = .slice oa xs.length cap → Imp W n D L M' (rowD oa sz enc xs :: R) X) : Imp W n D L M R X :=
  Imp.settleL v henc (fun hs => by
    obtain ⟨oa, cap, rfl⟩ := hs
    exact h oa cap rfl)
end Go.G


namespace Go.G
variable {P : Program} {W : World} {n : Nat} {D : List Deferred} {L : Tm} {M : List Res} {R : List Fact} {Q : Exit → Act → World → Prop} {o : Oper}
/-- A fact that stays when more is known. -/
def Mono (φ : Fact) : Prop := ∀ V V', φ V → Le V V' → φ V'
theorem Mono.box (b : Nat) (T : TypeId) (vs : List Value) : Mono (boxF b T vs) := fun _ _ h hl => hl _ _ h
theorem Mono.row {α : Type} (oa : Option Addr) (sz : Nat) (enc : α → List Value) (xs : List α) : Mono (rowD oa sz enc xs) := fun _ _ h hl => by
  rcases h with h | ⟨b, off, C, T, fr, h1, h2, h3⟩
  · exact .inl h
  · exact .inr ⟨b, off, C, T, fr, h1, hl _ _ h2, h3⟩
theorem Mono.and {φ ψ : Fact} (h : Mono φ) (k : Mono ψ) : Mono (fun V => φ V ∧ ψ V) := fun V V' x hl => ⟨h V V' x.1 hl, k V V' x.2 hl⟩
theorem Imp.exF {α : Type} {φ : α → Fact} {X : Act → World → Prop} (hm : (fun V => ∃ x, φ x V) ∈ R) (hst : ∀ x, Mono (φ x)) (h : ∀ x, Imp W n D L M (φ x :: R) X) : Imp W n D L M R X := by
  intro a w h1 h2 h3
  obtain ⟨s, hS, hO, hR⟩ := h3.mem
  obtain ⟨x, hx⟩ := hR _ hm _ (Le.refl _)
  refine h x a w h1 h2 ⟨h3.os, h3.tape, h3.output, s, hS, hO, ?_⟩
  intro ψ hψ
  rcases List.mem_cons.1 hψ with rfl | hψ
  · exact fun V' hl => hst x _ _ hx hl
  · exact hR ψ hψ
theorem OpG_lit {t e : TypeId} {ps : List (Nat × Operand)} {vs : List Value} {len : Nat} {i : TypeInfo} {z : Value} {cs : List Value} (ho : o.op = .buildSlice t len ps.toArray) (ht : P.underlying t = some (.slice e)) (hi : P.info? e = some i) (hz : i.zero = some z)
    (hbig : Nat.ble (len * i.size) 16777216 = true) (hpos : Nat.beq (len * i.size) 0 = false)
    (hx : evs L (ps.map (·.2)) = some vs) (hk : ps.map (·.1) = List.range ps.length) (hp : PlaceOK (fun k => some (k * i.size, i.size)) 0 0 vs) [hc : CatC vs cs] (hl : cs.length = len * i.size) : OpG P W n L M R o (Spc.lit len e cs) := by
  intro Mx Rx a w g1 g3
  have hu := parts_eq g1 hx hk
  have hb1 : ¬ (2 ^ 24 < len * i.size) := by
    have : len * i.size ≤ 16777216 := by simpa using hbig
    omega
  have hb2 : ¬ (len * i.size = 0) := fun e => by rw [e] at hpos; cases hpos
  have hf := fill_all (cells := (Array.range (len * i.size)).map (fun k => z.cells[k % z.cells.size]!)) hp hc.cat (by simpa using hl)
  have hrun : (execOp a.eval o).run P w = .ok (.value (.slice (some ⟨w.heap.size, 0, none⟩) len len)) (w.alloc (.cells cs.toArray e)) := by
    simp only [execOp, ho, Instr.buildSlice, Sem.run_bind, run_underlying ht, run_sizeOf' hi, Result.andThen_ok, gt_iff_lt, hb1, hb2, if_false, run_zeroValue' hi hz, Sem.run_pure, List.map_toArray, hu, hf]
    simp [newRow, newObj, Sem.run]
  rw [hrun]
  refine ⟨rfl, ?_⟩
  have h4 : St W (bx w.heap.size e cs :: (Mx ++ M)) (Rx ++ R) (w.alloc (.cells cs.toArray e)) := g3.push _
  refine (h4.seal_.derive (ψ := boxF w.heap.size e cs) fun V hV => ?_).weak ?_
  · obtain ⟨s, hs, hp⟩ := hV (sealed (bx w.heap.size e cs)) (by simp)
    have hs' : s = [(w.heap.size, .cells cs.toArray e (0, 0))] := hs
    subst hs'
    exact hp (w.heap.size, .cells cs.toArray e (0, 0)) (by simp)
  · intro φ hφ
    rcases List.mem_append.1 hφ with h | h
    · have : φ = boxF w.heap.size e cs := by simpa [Spc.fs, Spc.g, sblk] using h
      subst this; simp
    · exact List.mem_cons_of_mem _ (List.mem_cons_of_mem _ h)
/-- What is known of a slice of one slice. -/
def slF {α : Type} (b : Nat) (e : TypeId) (m sz : Nat) (enc : α → List Value) (ys : List α) : Fact := fun V => ∃ x : Option Addr × Nat, boxF b e [.slice x.1 m x.2] V ∧ rowD x.1 sz enc ys V
abbrev Spc.sl {α : Type} (m sz : Nat) (enc : α → List Value) (ys : List α) : Spc := Spc.g (isSl m) (fun _ => []) (fun v => [rowD (adr v) sz enc ys])
abbrev Spc.slsl {α : Type} (e : TypeId) (m sz : Nat) (enc : α → List Value) (ys : List α) : Spc := Spc.g (fun v => v = .slice (some ⟨sblk v, 0, none⟩) 1 1) (fun _ => []) (fun v => [slF (sblk v) e m sz enc ys])
theorem p_depSl {α : Type} {ops : Array Oper} {K : List Spc → Prop} {rest : List Oper} {acc : List Spc} {d : Nat} {t e : TypeId} {i : TypeInfo} {z : Value} {x : Nat} (j : Nat) {oj : Oper} {m sz : Nat} {enc : α → List Value} {ys : List α} (hoj : ops[j]? = some oj) (hsj : acc[j]? = some (Spc.sl m sz enc ys)) (hdep : depD ops o j = true) (hg : o.guard = none) (hdst : o.dst = some d) (hd : Nat.blt d n = true)
    (ho : o.op = .buildSlice t 1 [(0, Operand.tmp x)].toArray) (hx : oj.dst.getD 1000000 = x) (ht : P.underlying t = some (.slice e)) (hi : P.info? e = some i) (hz : i.zero = some z) (h1 : i.size = 1)
    (h : ParO P W n M R ops K rest (acc ++ [Spc.slsl e m sz enc ys]) L) : ParO P W n M R ops K (o :: rest) acc L := by
  refine ⟨Spc.slsl e m sz enc ys, by simp [hdst, hd], .inl ⟨rfl, .inr (.inr (.inl ⟨hg, j, oj, _, hoj, hsj, rfl, hdep, fun u hu => ?_⟩))⟩, by simpa [addL, Spc.g] using h⟩
  obtain ⟨oa, cap, rfl⟩ := hu
  have hlit : OpG P W n ((oj.dst.getD 1000000, .slice oa m cap) :: L) M ((Spc.sl m sz enc ys).fct (.slice oa m cap) ++ R) o (Spc.lit 1 e [.slice oa m cap]) := by
    refine OpG_lit (vs := [.slice oa m cap]) ho ht hi hz (by rw [h1]; rfl) (by rw [h1]; rfl) ?_ rfl ⟨by rw [h1]; rfl, trivial⟩ (by rw [h1]; rfl)
    show evs _ [Operand.tmp x] = _
    subst hx
    simp only [evs, ev, look_cons_eq]
  intro Mx Rx a w g1 g3
  have hr := hlit Mx Rx a w g1 g3
  generalize (execOp a.eval o).run P w = r at hr
  have conv : ∀ v w', (Spc.lit 1 e [.slice oa m cap]).val v → St W ((Spc.lit 1 e [.slice oa m cap]).rs v ++ (Mx ++ M)) ((Spc.lit 1 e [.slice oa m cap]).fs v ++ (Rx ++ ((Spc.sl m sz enc ys).fct (.slice oa m cap) ++ R))) w' →
      (Spc.slsl e m sz enc ys).val v ∧ St W ((Spc.slsl e m sz enc ys).rs v ++ (Mx ++ M)) ((Spc.slsl e m sz enc ys).fs v ++ (Rx ++ ((Spc.sl m sz enc ys).fct (.slice oa m cap) ++ R))) w' := by
    intro v w' hv hst
    refine ⟨hv, ?_⟩
    refine (hst.derive (ψ := slF (sblk v) e m sz enc ys) fun V hV => ⟨(oa, cap), hV _ ?_, hV _ ?_⟩).weak ?_
    · exact List.mem_append_left _ (by simp [Spc.fs, Spc.g])
    · exact List.mem_append_right _ (List.mem_append_right _ (List.mem_append_left _ (by simp [Spc.g, adr])))
    · intro φ hφ
      rcases List.mem_append.1 hφ with h | h
      · have : φ = slF (sblk v) e m sz enc ys := by simpa [Spc.fs, Spc.g] using h
        subst this; simp
      · exact List.mem_cons_of_mem _ (List.mem_append_right _ h)
  cases r with
  | ok y w' =>
    cases y <;> simp only [upG] at hr ⊢
    case value v => exact conv v w' hr.1 hr.2
    case skip => exact conv undef w' hr.1 hr.2
    case enter f args =>
      obtain ⟨rfl, hc⟩ := hr
      refine ⟨rfl, hc.mono ?_⟩
      rintro e w'' (⟨v, rfl, h4, h5⟩ | ⟨c, rfl, hc1, _⟩)
      · exact .inl ⟨v, rfl, conv v w'' h4 h5⟩
      · cases hc1
  | halt x w' => exact hr.elim
theorem f_slsl {α : Type} {X : Act → World → Prop} {os : List Oper} {ss : List Spc} {e : TypeId} {m sz : Nat} {enc : α → List Value} {ys : List α} {d : Nat} (hdst : o.dst = some d) (h : ∀ b, Fin W n D X os ss ((d, .slice (some ⟨b, 0, none⟩) 1 1) :: L) M (slF b e m sz enc ys :: R)) : Fin W n D X (o :: os) (Spc.slsl e m sz enc ys :: ss) L M R :=
  f_g hdst (fun v hv => by
    have := h (sblk v)
    rw [← (show v = .slice (some ⟨sblk v, 0, none⟩) 1 1 from hv)] at this
    exact this)
theorem f_gf {X : Act → World → Prop} {os : List Oper} {ss : List Spc} {pval : Value → Prop} {fct : Value → List Fact} {d : Nat} (hdst : o.dst = some d) (h : ∀ v, pval v → Fin W n D X os ss ((d, v) :: L) M (fct v ++ R)) : Fin W n D X (o :: os) (Spc.g pval (fun _ => []) fct :: ss) L M R := f_g hdst h
class HasF (φ : Fact) (R : List Fact) : Prop where
  mem : φ ∈ R
theorem Imp.slF {α : Type} {X : Act → World → Prop} {b : Nat} {e : TypeId} {m sz : Nat} {enc : α → List Value} {ys : List α} [hm : InR (G.slF b e m sz enc ys) R] (h : ∀ oa cap, Imp W n D L M (boxF b e [.slice oa m cap] :: rowD oa sz enc ys :: R) X) : Imp W n D L M R X := by
  refine Imp.exF (φ := fun x : Option Addr × Nat => fun V => boxF b e [.slice x.1 m x.2] V ∧ rowD x.1 sz enc ys V) hm.mem (fun x => (Mono.box _ _ _).and (Mono.row _ _ _ _)) ?_
  rintro ⟨oa, cap⟩
  refine Imp.derive (ψ := rowD oa sz enc ys) ?_ (fun V hV => (hV _ (List.mem_cons_self ..)).2)
  refine Imp.derive (ψ := boxF b e [.slice oa m cap]) ?_ (fun V hV => (hV _ (List.mem_cons_of_mem _ (List.mem_cons_self ..))).1)
  refine (h oa cap).weak (fun _ _ h => h) SelM.refl ?_
  intro φ hφ
  rcases List.mem_cons.1 hφ with rfl | hφ
  · simp
  · rcases List.mem_cons.1 hφ with rfl | hφ
    · simp
    · exact List.mem_cons_of_mem _ (List.mem_cons_of_mem _ (List.mem_cons_of_mem _ hφ))

/-! ### what hands back a function that remembers -/
/-- v, called with the key of what is left, answers it; it keeps m. -/
def FnOk (P : Program) {κ : Type} (dom : κ → Prop) (key : κ → Value) (ans : κ → Value) (v : Value) (m : Res) (Rs : List Fact) : Prop :=
  ∃ k caps, v = .func (.func k) #[] (List.toArray caps) ∧ ∀ x, dom x → FnM P k (key x :: caps) m Rs (fun u => u = ans x)
theorem o_fnk {κ : Type} {dom : κ → Prop} {key ans : κ → Value} {ops : Array Oper} {rest : List Oper} {k : FuncId} {args : List Value} {R0 : List Fact} {xs : List Operand} {ts : Array TypeId} {d : Nat}
    (h : FnS P k args [] R0 (fun e M' R' => ∃ v m, e = .returned v ∧ M' = [m] ∧ FnOk P dom key ans v m R')) (ho : o.op = .call { callee := .value (.func k), args := xs.toArray, argTypes := ts })
    (hx : evs L xs = some args) (hg : o.guard = none) (hdst : o.dst = some d) (hd : Nat.blt d n = true) (hs : SubR R R0)
    (hret : ∀ (k : FuncId) (caps : List Value) (m : Res) (Rs : List Fact), (∀ x, dom x → FnM P k (key x :: caps) m Rs (fun u => u = ans x)) → Imp W n D ((d, .func (.func k) #[] caps.toArray) :: L) (m :: M) (Rs ++ R) (wpList P ops Q rest)) : Imp W n D L M R (wpList P ops Q (o :: rest)) := by
  refine o_call h ho [] [] rfl hx (by simp) hg (by simp [okD, hdst, hd]) SelM.refl hs ?_ ?_ ?_
  · rintro v M' R' ⟨v', m, he, rfl, kk, caps, rfl, hf⟩
    cases he
    rw [hdst]
    exact hret kk caps m R' hf
  · rintro c M' R' ⟨v', m, he, _⟩; cases he
  · rintro M' R' ⟨v', m, he, _⟩; cases he
end Go.G


namespace Go.G
variable {P : Program} {W : World} {n : Nat} {D : List Deferred} {L : Tm} {M : List Res} {R : List Fact} {Q : Exit → Act → World → Prop} {o : Oper}

instance HasOwn.appn {α : Type} {v : Value} {A M M' : List Res} {T : TypeId} {sz : Nat} {enc : α → List Value} {xs : List α} [h : HasOwn v M T sz enc xs M'] : HasOwn v (A ++ M) T sz enc xs (A ++ M') := ⟨by
  obtain ⟨X, Y, h1, h2⟩ := h.del
  exact ⟨A ++ X, Y, by simp [h1], by simp [h2]⟩⟩
instance (priority := 1350) SelMC.capp {M A B : List Res} {r : Res} [h : SelMC M (r :: (A ++ B))] : SelMC M ((r :: A) ++ B) := ⟨h.sel⟩
instance (priority := 1340) SelMC.napp {M B : List Res} [h : SelMC M B] : SelMC M ([] ++ B) := ⟨h.sel⟩
theorem made_flat {α : Type} {enc : α → List Value} {z : Array Value} {z0 : α} (hz : enc z0 = z.toList) : ∀ l : Nat, (madeCells z (l * z.size)).toList = (List.replicate l z0).flatMap enc := by
  intro l
  have hlen : (enc z0).length = z.size := by rw [hz]; simp
  apply List.ext_getElem?
  intro k
  by_cases hk : k < l * z.size
  · have hpos : 0 < z.size := Nat.pos_of_ne_zero fun h => by rw [h] at hk; simp at hk
    have hlt : k % z.size < z.size := Nat.mod_lt _ hpos
    have hdiv : k / z.size < l := Nat.div_lt_of_lt_mul (by rw [Nat.mul_comm]; exact hk)
    have hkk : k = (k / z.size) * z.size + k % z.size := by rw [Nat.mul_comm]; exact (Nat.div_add_mod k z.size).symm
    have key : ∀ (l i j : Nat), i < l → j < z.size → ((List.replicate l z0).flatMap enc)[i * z.size + j]? = z[j]? := by
      intro l
      induction l with
      | zero => intro i j h; omega
      | succ l ih =>
        intro i j h hj
        rw [List.replicate_succ, List.flatMap_cons]
        cases i with
        | zero =>
          rw [List.getElem?_append_left (by rw [hlen]; omega), hz]
          simp
        | succ i =>
          rw [List.getElem?_append_right (by rw [hlen, Nat.add_mul]; omega), hlen, show (i + 1) * z.size + j - z.size = i * z.size + j from by rw [Nat.add_mul]; omega]
          exact ih i j (by omega) hj
    rw [show ((List.replicate l z0).flatMap enc)[k]? = z[k % z.size]? from by conv => lhs; rw [hkk]
                                                                              exact key l _ _ hdiv hlt]
    unfold madeCells
    simp [hk, hlt]
  · have h1 : ((List.replicate l z0).flatMap enc).length = l * z.size := by
      clear hk
      induction l with
      | zero => simp
      | succ l ih => rw [List.replicate_succ, List.flatMap_cons, List.length_append, hlen, ih, Nat.add_mul]; omega
    rw [List.getElem?_eq_none (by simp [madeCells]; omega), List.getElem?_eq_none (by omega)]

/-- 'make([]T, l, c)'. -/
theorem o_make {α : Type} {enc : α → List Value} {ops : Array Oper} {rest : List Oper} {t e : TypeId} {i : TypeInfo} {z : Value} {x y : Operand} {l c d : Nat} {sz : Nat} (z0 : α) (ho : o.op = .makeSlice t x y) (ht : P.underlying t = some (.slice e)) (hi : P.info? e = some i) (hz : i.zero = some z) (hsz : i.size = sz) (hzs : z.cells.size = sz) (hz0 : enc z0 = z.cells.toList)
    (hg : o.guard = none) (hdst : o.dst = some d) (hd : Nat.blt d n = true) (hx : ev L x = some (.int .i64 (l : Int))) (hy : ev L y = some (.int .i64 (c : Int))) (hlc : l ≤ c) (hbd : c ≤ 1000000 ∧ i.bytes ≤ 1000000)
    (h : ∀ b, Imp W n D ((d, .slice (some ⟨b, 0, none⟩) l c) :: L) (ownL (.slice (some ⟨b, 0, none⟩) l c) e sz enc (List.replicate l z0) :: M) R (wpList P ops Q rest)) : Imp W n D L M R (wpList P ops Q (o :: rest)) := by
  intro a w g1 g2 g3
  refine wpList_plain hg fun K hK => ?_
  unfold Oper.wp
  have hby : (i.bytes : Int) * (c : Int) ≤ 281474976710656 := by
    have h1 : i.bytes * c ≤ 1000000 * 1000000 := Nat.mul_le_mul hbd.2 hbd.1
    have h2 : ((i.bytes * c : Nat) : Int) ≤ 281474976710656 := by omega
    rwa [Int.natCast_mul] at h2
  have hr := run_make (P := P) w t e i z ht hi hz .i64 .i64 l c (by omega) (by omega) hby (by omega)
  have key : ∀ ρ : Operand → Value, ρ x = .int .i64 (l : Int) → ρ y = .int .i64 (c : Int) → (execOp ρ o).run P w = .ok (.value (.slice (some ⟨w.heap.size, 0, none⟩) l c)) (w.alloc (.cells (madeCells z.cells (c * i.size)) e)) := by
    intro ρ e1 e2
    unfold execOp
    simp only [Int.toNat_natCast] at hr
    simp only [ho, e1, e2, Sem.run_bind, hr, Result.andThen_ok, Sem.run_pure]
  rw [key _ (g1.ev hx) (g1.ev hy), Oper.upon_value, hdst]
  refine hK _ _ (h w.heap.size _ _ (g1.put (by simpa using hd) _) (by rw [put_defers]; exact g2) ?_)
  have h4 := g3.push (.cells (madeCells z.cells (c * i.size)) e)
  obtain ⟨s, ⟨s1, s2, rfl, hs1, hM⟩, hO, hR⟩ := h4.mem
  refine ⟨h4.os, h4.tape, h4.output, s1 ++ s2, ⟨s1, s2, rfl, ?_, hM⟩, hO, hR⟩
  have hfl := made_flat (enc := enc) (z := z.cells) hz0 l
  have hlen : ((List.replicate l z0).flatMap enc).length = l * sz := by rw [← hfl, hzs]; simp [madeCells]
  refine ⟨by rw [hlen]; simp, .inr ⟨w.heap.size, c, _, by simp, by simpa using hlc, by simp only [maxLen]; omega, by rw [size_madeCells, hsz], ?_, hs1⟩⟩
  rw [List.length_replicate, ← hfl, hzs, hsz]
  apply List.ext_getElem?
  intro k
  rw [List.getElem?_take]
  unfold madeCells
  have hle : l * sz ≤ c * sz := Nat.mul_le_mul_right _ hlc
  split
  · rename_i hk
    simp [hk, show k < c * sz from by omega]
  · rename_i hk
    simp [hk]

/-- 'copy(dst, src)', as many elements on both sides. -/
theorem o_copy {α : Type} {enc : α → List Value} {ops : Array Oper} {rest : List Oper} {t t2 e : TypeId} {i : TypeInfo} {x y : Operand} {d m : Nat} {sz cap : Nat} {v : Value} {xs ys : List α} {oa : Option Addr} {M' : List Res} [hM : HasOwn v M e sz enc xs M'] [hr : HasRow oa R sz enc ys] (ho : o.op = .call { callee := .builtin .copy, args := #[x, y], argTypes := #[t, t2] })
    (ht : P.underlying t = some (.slice e)) (hi : P.info? e = some i) (hsz : i.size = sz) (hg : o.guard = none) (hdst : o.dst = some d) (hd : Nat.blt d n = true) (henc : ∀ x, (enc x).length = sz) (h1 : ∀ x, oneCells (enc x) = true)
    (hx : ev L x = some v) (hy : ev L y = some (.slice oa m cap)) (hm : m = ys.length) (hl : xs.length = ys.length)
    (h : Imp W n D ((d, .int .i64 (m : Int)) :: L) (ownL v e sz enc ys :: M') R (wpList P ops Q rest)) : Imp W n D L M R (wpList P ops Q (o :: rest)) := by
  subst hm hsz
  intro a w g1 g2 g3
  refine wpList_plain hg fun K hK => ?_
  unfold Oper.wp
  have h0 : St W (ownL v e i.size enc xs :: M') R w := g3.perm hM.del.perm
  obtain ⟨s, ho', hO⟩ := h0.res (Upd.of_mem (List.mem_cons_self ..))
  have hcl : (ys.flatMap enc).length = ys.length * i.size := by
    clear hr hy hl h
    induction ys with
    | nil => simp
    | cons y ys ih => rw [List.flatMap_cons, List.length_append, henc, ih, List.length_cons, Nat.add_mul]; omega
  have h1c : ∀ u ∈ ys.flatMap enc, u.oneCell' = true := by
    intro u hu
    obtain ⟨y, _, hy⟩ := List.mem_flatMap.1 hu
    exact oneCells_mem (h1 y) u hy
  have run : ∃ w', (Builtin.copy_ #[t, t2] o.type #[v, .slice oa ys.length cap]).run P w = .ok (goInt ys.length) w' ∧ St W (ownL v e i.size enc ys :: M') R w' := by
    obtain ⟨hlen, hcase⟩ := ho'
    by_cases hy0 : ys = []
    · subst hy0
      have hx0 : xs = [] := List.eq_nil_of_length_eq_zero (by simpa using hl)
      subst hx0
      refine ⟨w, ?_, h0⟩
      rcases hcase with ⟨rfl, _, _⟩ | ⟨b, cp, C, rfl, _⟩ <;> cases oa <;> simp [Builtin.copy_, run_underlying ht, Builtin.lenOf, Builtin.firstCells, sizeOf, typeInfo, hi, loadCells, loadCellsFrom, storeCells]
    · have hne : 0 < ys.length := List.length_pos_iff.2 hy0
      obtain ⟨b2, off, rfl, hc⟩ := g3.row hr.mem hne
      rcases hcase with ⟨rfl, h00, _⟩ | ⟨b, cp, C, rfl, hmc, hcm, hC, htake, rfl⟩
      · omega
      · have hb : w.heap[b]? = some (.cells C e (0, 0)) := hO.at_ (b, _) (by simp)
        have hload := run_loadCells_list (P := P) w ⟨b2, off, none⟩ (ys.flatMap enc) (fun j u hu => by
          have hj : j < ys.length * i.size := by rw [← hcl]; exact (List.getElem?_eq_some_iff.1 hu).1
          have hpos : 0 < i.size := Nat.pos_of_ne_zero fun h => by rw [h] at hj; simp at hj
          have hlt : j % i.size < i.size := Nat.mod_lt _ hpos
          have hdiv : j / i.size < ys.length := Nat.div_lt_of_lt_mul (by rw [Nat.mul_comm]; exact hj)
          have hkk : j = (j / i.size) * i.size + j % i.size := by rw [Nat.mul_comm]; exact (Nat.div_add_mod j i.size).symm
          have e1 := flat_at henc ys _ _ hdiv hlt
          rw [← hkk, hu] at e1
          rw [add_at]
          have e2 := hc _ _ hdiv hlt
          rw [Nat.add_assoc, ← hkk] at e2
          rw [e2, ← e1])
        have hfit : 0 + 0 + (ys.flatMap enc).length ≤ C.size := by
          rw [hcl, hC]; simp only [Nat.zero_add]; exact Nat.mul_le_mul_right _ (by omega)
        have hst := run_storeCells_at P b 0 e (ys.flatMap enc) 0 C w hb hfit h1c
        refine ⟨w.setRow b (C.toList.take (0 + 0) ++ ys.flatMap enc ++ C.toList.drop (0 + 0 + (ys.flatMap enc).length)).toArray, ?_, ?_⟩
        · have hmin : Nat.min ys.length ys.length = ys.length := Nat.min_self _
          rw [hcl] at hload
          rw [hl]
          unfold Builtin.copy_
          simp only [List.size_toArray, List.length_cons, List.length_nil, Nat.reduceAdd, Nat.lt_add_one, Nat.zero_lt_succ, Array.getElem?_eq_getElem, List.getElem_toArray, List.getElem_cons_zero, List.getElem_cons_succ, Sem.run_bind, run_underlying ht, Result.andThen_ok, Builtin.lenOf, Builtin.firstCells, Sem.run_pure, run_sizeOf' hi, hmin, hload, hst]
        · refine h0.replace Upd.here rfl rfl rfl ?_
          rintro s' ⟨_, hc'⟩ hO'
          have hs' : s' = [(b, .cells C e (0, 0))] := by
            rcases hc' with ⟨hv, _⟩ | ⟨b', cap', C', hv, _, _, _, _, hs''⟩
            · cases hv
            · simp only [Value.slice.injEq, Option.some.injEq, Addr.mk.injEq] at hv
              obtain ⟨⟨rfl, _, _⟩, _, rfl⟩ := hv
              subst hs''
              have := hO'.at_ (b, .cells C' e (0, 0)) (by simp)
              simp only at this
              rw [hb] at this
              simp only [Option.some.injEq, Obj.cells.injEq] at this
              rw [this.1]
          subst hs'
          refine ⟨[(b, .cells (C.toList.take (0 + 0) ++ ys.flatMap enc ++ C.toList.drop (0 + 0 + (ys.flatMap enc).length)).toArray e (0, 0))], ⟨hcl, .inr ⟨b, cp, _, by rw [hl], by omega, hcm, ?_, ?_, rfl⟩⟩, ⟨by simp [keys], ?_⟩, ?_, ?_⟩
          · simp only [List.size_toArray, List.length_append, List.length_take, List.length_drop, Array.length_toList]
            omega
          · simp only [Nat.add_zero, List.take_zero, List.nil_append]
            rw [← hcl]
            exact List.take_left
          · intro p hp
            simp only [List.mem_singleton] at hp
            subst hp
            exact setRow_heap w b C _ e _ hb
          · intro x hx; exact .inl (by simpa [keys] using hx)
          · intro x _ hx
            exact setRow_other w b x _ (by simpa [keys] using hx)
  obtain ⟨w', hr', hw'⟩ := run
  have hrun : ∀ ρ : Operand → Value, ρ x = v → ρ y = .slice oa ys.length cap → (execOp ρ o).run P w = .ok (.value (goInt ys.length)) w' := by
    intro ρ e1 e2
    unfold execOp
    simp only [ho, resolve, invoke, builtin, Sem.run_bind, Sem.run_pure, Result.andThen_ok, List.map_toArray, List.map_cons, List.map_nil, e1, e2, hr']
  rw [hrun _ (g1.ev hx) (g1.ev hy), Oper.upon_value, hdst]
  exact hK _ _ (h _ w' (g1.put (by simpa using hd) _) (by rw [put_defers]; exact g2) hw')

/-! ### functions that hand over blocks -/
theorem FnS.intro0 {k : FuncId} {args : List Value} {R0 : List Fact} {Post : Ending → List Res → List Fact → Prop} {fn : Func} {c : Code} (he : ∀ (ag : Array Value) (w : World), (callFunc k ag).run P w = .ok (.enter k ag) w)
    (hf : P.funcs[k]? = some fn) (hb : fn.body = some c) (hn : fn.ntmps = n) (ha : Nat.ble args.length n = true)
    (h : ∀ W Mf Rf, Imp W n [] (argsL args 0) Mf (R0 ++ Rf) (c.wp P (bodyPost P fn (RetE W Mf (R0 ++ Rf) Post)))) : FnS P k args [] R0 Post := FnS.intro he hf hb hn ha h
theorem FnS.introD0 {k : FuncId} {args : List Value} {R0 : List Fact} {Post : Ending → List Res → List Fact → Prop} {fn : Func} {c : Code} (he : ∀ (ag : Array Value) (w : World), (callFunc k ag).run P w = .ok (.enter k ag) w)
    (hf : P.funcs[k]? = some fn) (hb : fn.body = some c) (hn : fn.ntmps = n) (ha : Nat.ble args.length n = true)
    (h : ∀ W Mf Rf, Imp W n [] (argsL args 0) Mf (R0 ++ Rf) (c.wp P (bodyPostD P fn (RetE W Mf (R0 ++ Rf) Post)))) : FnS P k args [] R0 Post := by
  refine ⟨he, fun W Mf Rf w hw => calls_of_wp_defers hf hb ?_⟩
  rw [hn]
  exact h W Mf Rf _ w (FSat.entry (Nat.le_of_ble_eq_true ha)) rfl hw
theorem d_rete {k : FuncId} {K : IntKind} {rT B : TypeId} {b : Nat} {fn : Func} {v : Value} {Mf : List Res} {R0 : List Fact} {Post : Ending → List Res → List Fact → Prop} (M' : List Res) (R' : List Fact) (ha : AnsP P k K rT B) (hr : Rd P W n L M R fn v) (hp : Post (.returned v) M' R') (hM : SelM M (M' ++ Mf)) (hR : SubR R (R' ++ R0)) :
    Imp W n [{ target := .fn (.func k) #[], args := #[pt b 0] }] L M R (bodyPostD P fn (RetE W Mf R0 Post) .ret) :=
  leaves_ret ha hr (fun _ h => ⟨M', R', hp, (h.sel hM).weak hR⟩)
theorem d_pane {k : FuncId} {K : IntKind} {rT B : TypeId} {b : Nat} {x : Value} {y : Int} {M1 : List Res} {fn : Func} {v : Value} {Mf : List Res} {R0 : List Fact} {Post : Ending → List Res → List Fact → Prop} (M' : List Res) (R' : List Fact) (ha : AnsP P k K rT B) [hu : UpdBox b M B [x] [.int K y] M1] (hr : Rd P W n L M1 R fn v) (hp : Post (.returned v) M' R') (hM : SelM M1 (M' ++ Mf)) (hR : SubR R (R' ++ R0)) :
    Imp W n [{ target := .fn (.func k) #[], args := #[pt b 0] }] L M R (bodyPostD P fn (RetE W Mf R0 Post) (.panic [{ v := .iface rT (.int K y), recovered := false }])) :=
  leaves_pan ha hr (fun _ h => ⟨M', R', hp, (h.sel hM).weak hR⟩)
end Go.G


namespace Go.G
variable {P : Program} {W : World} {n : Nat} {D : List Deferred} {L : Tm} {M : List Res} {R : List Fact} {Q : Exit → Act → World → Prop} {o : Oper}
theorem v_eqV {t u : TypeId} {x y : Operand} {us vs : Array Value} {r : Bool} (ho : o.op = .binOp .eql t x y u) (hx : ev L x = some (.agg us)) (hy : ev L y = some (.agg vs)) (hg : P.eqGuardType P.depth t = false) (hb : ∀ w, (Op.equal t (.agg us) (.agg vs)).run P w = .ok r w) : OpQ P W n L M R o (.bool r) :=
  OpQ.of_value fun f w h1 _ => by
    have e1 := h1.ev hx
    have e2 := h1.ev hy
    have hb1 : (binOp .eql t (.agg us) (.agg vs)).run P w = .ok (.bool r) w := by
      show Sem.run P (do pure (Value.bool (← Op.equal t (.agg us) (.agg vs)))) w = _
      simp only [Sem.run_bind, hb, Result.andThen_ok, Sem.run_pure]
    unfold execOp
    simp [ho, e1, e2, eqGuard, run_program, hg, hb1]
theorem v_eqP {t u : TypeId} {x y : Operand} {us vs : Array Value} {p : Prop} [Decidable p] (ho : o.op = .binOp .eql t x y u) (hx : ev L x = some (.agg us)) (hy : ev L y = some (.agg vs)) (hg : P.eqGuardType P.depth t = false) (hb : ∀ w, (Op.equal t (.agg us) (.agg vs)).run P w = .ok (decide p) w) : OpQ P W n L M R o (.bool (decide p)) := v_eqV ho hx hy hg hb
theorem run_partC {w : World} {t : TypeId} {d : TypeDesc} {us : Array Value} {k : Nat} {v : Value} (hu : P.underlying t = some d) (hd : aggD d = false) (hv : us[k]? = some v) : (part t us k).run P w = .ok v w := by
  have hagg := run_isAgg' (w := w) hu
  rw [hd] at hagg
  simp [part, hagg, hv]
theorem fields_nil {d : Nat} {us vs : Array Value} {w : World} : (Op.eqFields d us vs []).run P w = .ok (decide True) w := by simp [Op.eqFields]
theorem fields_cons {d : Nat} {us vs : Array Value} {w : World} {f : Field} {fs : List Field} {a b : Value} {p q : Prop} [Decidable p] [Decidable q] (hn : (f.name != "_") = true) (h1 : (part f.type us f.offset).run P w = .ok a w) (h2 : (part f.type vs f.offset).run P w = .ok b w) (h3 : (Op.equalIn d f.type a b).run P w = .ok (decide p) w) (h4 : (Op.eqFields d us vs fs).run P w = .ok (decide q) w) :
    (Op.eqFields d us vs (f :: fs)).run P w = .ok (decide (p ∧ q)) w := by
  have hn' : f.name ≠ "_" := by simpa using hn
  simp only [Op.eqFields, if_pos hn', Sem.run_bind, h1, h2, h3, Result.andThen_ok]
  by_cases hp : p
  · simp [hp, h4]
  · simp [hp]
theorem eq_int {d : Nat} {t : TypeId} {k k' : IntKind} {a b : Int} {w : World} (h : P.underlying t = some (.int k')) : (Op.equalIn (d + 1) t (.int k a) (.int k b)).run P w = .ok (decide (a = b)) w := by
  have e : (a == b) = decide (a = b) := by by_cases h : a = b <;> simp [h]
  rw [← e]; exact run_equalIn_int w d t k k' a b h
theorem eq_struct {d : Nat} {t : TypeId} {us vs : Array Value} {fs : Array Field} {w : World} {p : Prop} [Decidable p] (hu : P.underlying t = some (.struct fs)) (hp : P.stoodInHeld t = false) (h : (Op.eqFields d us vs fs.toList).run P w = .ok (decide p) w) : (Op.equalIn (d + 1) t (.agg us) (.agg vs)).run P w = .ok (decide p) w := by
  have hf : P.fieldsOf t = fs := by simp [Program.fieldsOf, hu]
  rw [run_equalIn_struct w d t us vs (by rw [hf]; exact hu) hp, hf]; exact h
theorem eq_to {t : TypeId} {us vs : Array Value} {p q : Prop} [Decidable p] [Decidable q] (h : ∀ w, (Op.equalIn (9999 + 1) t (.agg us) (.agg vs)).run P w = .ok (decide p) w) (e : p ↔ q) (w : World) : (Op.equal t (.agg us) (.agg vs)).run P w = .ok (decide q) w := by
  rw [← decide_eq_decide.2 e]; exact h w
end Go.G


namespace Go.G
variable {P : Program} {W : World} {n : Nat} {D : List Deferred} {L : Tm} {M : List Res} {R : List Fact} {Q : Exit → Act → World → Prop} {o : Oper}
theorem v_max3 {x y z : Operand} {k : IntKind} {a b c : Int} {ts : Array TypeId} (ho : o.op = .call { callee := .builtin .max, args := #[x, y, z], argTypes := ts }) (hx : ev L x = some (.int k a)) (hy : ev L y = some (.int k b)) (hz : ev L z = some (.int k c)) : OpQ P W n L M R o (.int k (max (max a b) c)) :=
  OpQ.of_value fun g w h1 _ => by
    have e1 : max a b = if b > a then b else a := by split <;> omega
    have e2 : max (max a b) c = if c > (if b > a then b else a) then c else (if b > a then b else a) := by rw [← e1]; split <;> omega
    simp [execOp, ho, resolve, invoke, builtin, h1.ev hx, h1.ev hy, h1.ev hz, Builtin.max_, Builtin.max2, e2]
/-- A block is a row of its elements. -/
theorem Imp.rowN {α : Type} {enc : α → List Value} {sz : Nat} {b : Nat} {T : TypeId} {vs : List Value} {X : Act → World → Prop} (xs : List α) (henc : ∀ x, (enc x).length = sz) [hb : HasBoxF b R T vs] (e : vs = xs.flatMap enc) (h : Imp W n D L M (rowD (some ⟨b, 0, none⟩) sz enc xs :: R) X) : Imp W n D L M R X := by
  intro a w h1 h2 h3
  refine h a w h1 h2 (h3.derive fun V hV => .inr ⟨b, 0, vs.toArray, T, (0, 0), rfl, hV _ hb.mem, fun i j hi hj => ?_⟩)
  subst e
  rw [Nat.zero_add, ← flat_at henc xs i j hi hj]
  simp
theorem o_fnown {α : Type} {ops : Array Oper} {rest : List Oper} {k : FuncId} {args : List Value} {R0 : List Fact} {xs : List Operand} {ts : Array TypeId} {d : Nat} {g : Value → Value} {T : TypeId} {sz : Nat} {enc : α → List Value} {ys : List α}
    (h : FnS P k args [] R0 (fun e M' R' => ∃ v, e = .returned (g v) ∧ M' = [ownL v T sz enc ys] ∧ R' = [])) (ho : o.op = .call { callee := .value (.func k), args := xs.toArray, argTypes := ts })
    (hx : evs L xs = some args) (hg : o.guard = none) (hdst : o.dst = some d) (hd : Nat.blt d n = true) (hs : SubR R R0)
    (hret : ∀ v, Imp W n D ((d, g v) :: L) (ownL v T sz enc ys :: M) R (wpList P ops Q rest)) : Imp W n D L M R (wpList P ops Q (o :: rest)) := by
  refine o_call h ho [] [] rfl hx (by simp) hg (by simp [okD, hdst, hd]) SelM.refl hs ?_ ?_ ?_
  · rintro v M' R' ⟨u, he, rfl, rfl⟩
    cases he
    rw [hdst]
    exact hret u
  · rintro c M' R' ⟨u, he, _⟩; cases he
  · rintro M' R' ⟨u, he, _⟩; cases he
/-- The addresses in a struct's slices. -/
def adrAt : Value → Nat → Option Addr
  | .agg cs, i => adr (cs.getD i undef)
  | _, _ => none
end Go.G


namespace Go.G
variable {P : Program} {W : World} {n : Nat} {D : List Deferred} {L : Tm} {M : List Res} {R : List Fact} {Q : Exit → Act → World → Prop} {o : Oper}
/-- It hands back v, and turns one resource into another. -/
abbrev FnC (P : Program) (k : FuncId) (args : List Value) (r : Res) (R0 : List Fact) (v : Value) (r' : Res) : Prop := FnS P k args [r] R0 (fun e M' R' => e = .returned v ∧ M' = [r'] ∧ R' = [])
theorem FnC.intro {k : FuncId} {args : List Value} {r r' : Res} {R0 : List Fact} {v : Value} {fn : Func} {c : Code} (he : ∀ (ag : Array Value) (w : World), (callFunc k ag).run P w = .ok (.enter k ag) w)
    (hf : P.funcs[k]? = some fn) (hb : fn.body = some c) (hn : fn.ntmps = n) (ha : Nat.ble args.length n = true)
    (h : ∀ W Mf Rf, Imp W n [] (argsL args 0) (r :: Mf) (R0 ++ Rf) (c.wp P (bodyPost P fn (RetE W Mf (R0 ++ Rf) (fun e M' R' => e = .returned v ∧ M' = [r'] ∧ R' = []))))) : FnC P k args r R0 v r' := FnS.intro he hf hb hn ha h
theorem o_fnc {ops : Array Oper} {rest : List Oper} {k : FuncId} {args : List Value} {r r' : Res} {M1 : List Res} {R0 : List Fact} {v : Value} {f : Operand} {xs : List Operand} {ts : Array TypeId} {vs : List Value} {d : Nat}
    (h : FnC P k args r R0 v r') (ho : o.op = .call { callee := .value f, args := xs.toArray, argTypes := ts }) (first captured : List Value) (hf : ev L f = some (.func (.func k) first.toArray captured.toArray))
    (hx : evs L xs = some vs) (ha : first ++ vs ++ captured = args) (hg : o.guard = none) (hdst : o.dst = some d) (hd : Nat.blt d n = true) [hM : DelC M r M1] (hs : SubR R R0)
    (hret : Imp W n D ((d, v) :: L) (r' :: M1) R (wpList P ops Q rest)) : Imp W n D L M R (wpList P ops Q (o :: rest)) := by
  refine o_call h ho first captured hf hx ha hg (by simp [okD, hdst, hd]) (SelM.pick hM.del SelM.refl) hs ?_ ?_ ?_
  · rintro u M' R' ⟨he, rfl, rfl⟩
    cases he
    rw [hdst]
    exact hret
  · rintro c M' R' ⟨he, _⟩; cases he
  · rintro M' R' ⟨he, _⟩; cases he
theorem r_parC1 {id : Nat} {l : List Oper} {M0 : List Res} (r : Res) [hM : DelC M0 r M] (m : Nat) (hm : P.follows .mixedOrders = true) (hpb : parB (l.take m) (l.drop m) = true) (hfr : freshB L (l.take m) = true)
    (h : ParO P W n M R l.toArray (fun ss => preOf ss = [r] ∧ lateX l.toArray ss = true ∧ Fin W n D (wpList P l.toArray Q (l.drop m)) (l.take m) ss L M R) (l.take m) [] L) : Imp W n D L M0 R ((Code.region id l.toArray true).wp P Q) :=
  r_parC [r] m (SelM.pick hM.del SelM.refl) hm hpb hfr h
end Go.G


namespace Go.G
variable {P : Program} {W : World} {n : Nat} {D : List Deferred} {L : Tm} {M : List Res} {R : List Fact} {Q : Exit → Act → World → Prop} {o : Oper}
theorem v_shrn {t u : TypeId} {x y : Operand} {a h : Nat} (ho : o.op = .binOp .shr t x y u) (hx : ev L x = some (.int .i64 (a : Int))) (hy : ev L y = some (.int .i64 (h : Int))) (ha : a < 2 ^ 62) (hh : h < 62) : OpQ P W n L M R o (.int .i64 ((a >>> h : Nat) : Int)) :=
  OpQ.of_value fun f w h1 _ => by
    have hle : a >>> h ≤ a := Nat.shiftRight_le a h
    have hw : IntKind.wrap .i64 ((a >>> h : Nat) : Int) = ((a >>> h : Nat) : Int) := by
      generalize a >>> h = q at hle ⊢
      rw [IntKind.wrap_i64]; omega
    have h2 : ¬ ((h : Int) < 0) := by omega
    have h3 : min h 64 = h := by omega
    have hs : (Op.shift .shr .i64 (a : Int) .i64 (h : Int)).run P w = .ok (.int .i64 ((a >>> h : Nat) : Int)) w := by
      unfold Op.shift
      rw [if_neg h2]
      have e : ((a : Int).fdiv (2 ^ (min (h : Int).toNat IntKind.i64.bits))) = ((a >>> h : Nat) : Int) := by
        rw [show (h : Int).toNat = h from by simp, show IntKind.i64.bits = 64 from rfl, h3, Nat.shiftRight_eq_div_pow, Int.fdiv_eq_ediv_of_nonneg _ (by exact Int.le_of_lt (Int.pow_pos (by decide)))]
        simp
      simp only [e, hw, Sem.run_pure]
    have hb : (binOp .shr t (.int .i64 (a : Int)) (.int .i64 (h : Int))).run P w = .ok (.int .i64 ((a >>> h : Nat) : Int)) w := hs
    simp [execOp, ho, h1.ev hx, h1.ev hy, eqGuard, hb]
theorem v_andn {t u : TypeId} {x y : Operand} {a b : Nat} (ho : o.op = .binOp .and t x y u) (hx : ev L x = some (.int .i64 (a : Int))) (hy : ev L y = some (.int .i64 (b : Int))) (ha : a < 2 ^ 62) (hb : b < 2 ^ 62) : OpQ P W n L M R o (.int .i64 ((a &&& b : Nat) : Int)) :=
  OpQ.of_value fun f w h1 _ => by
    have hlt : a &&& b ≤ a := Nat.and_le_left
    have hw : IntKind.wrap .i64 ((a &&& b : Nat) : Int) = ((a &&& b : Nat) : Int) := by
      rw [IntKind.wrap_i64]; omega
    have hs : (Op.intBits .and .i64 (a : Int) (b : Int)).run P w = .ok (.int .i64 ((a &&& b : Nat) : Int)) w := by
      unfold Op.intBits
      have e1 : (BitVec.ofInt IntKind.i64.bits (a : Int) &&& BitVec.ofInt IntKind.i64.bits (b : Int)).toNat = a &&& b := by
        have h64 : IntKind.i64.bits = 64 := rfl
        rw [BitVec.toNat_and]
        simp only [BitVec.ofInt_natCast, BitVec.toNat_ofNat, h64]
        rw [Nat.mod_eq_of_lt (by omega), Nat.mod_eq_of_lt (by omega)]
      simp only [e1, hw, Sem.run_pure]
    have hb2 : (binOp .and t (.int .i64 (a : Int)) (.int .i64 (b : Int))).run P w = .ok (.int .i64 ((a &&& b : Nat) : Int)) w := hs
    simp [execOp, ho, h1.ev hx, h1.ev hy, eqGuard, hb2]
/-- A slice that is made, in the free part: known from then on. -/
abbrev Spc.mk' {α : Type} (l c sz : Nat) (enc : α → List Value) (z0 : α) : Spc := Spc.g (fun v => v = .slice (some ⟨sblk v, 0, none⟩) (List.replicate l z0).length c) (fun _ => []) (fun v => [rowD (some ⟨sblk v, 0, none⟩) sz enc (List.replicate l z0)])
end Go.G


namespace Go.G
variable {P : Program} {W : World} {n : Nat} {D : List Deferred} {L : Tm} {M : List Res} {R : List Fact} {Q : Exit → Act → World → Prop} {o : Oper}
/-- A store that fills a new variable, the whole of it. -/
theorem p_stl {ops : Array Oper} {K : List Spc → Prop} {rest : List Oper} {acc : List Spc} {T B : TypeId} {x : Nat} {y : Operand} {zs us : List Value} {v : Value} {i : TypeInfo} (j : Nat) {oj : Oper} (hg : o.guard = none) (hdst : o.dst = none) (ho : o.op = .store T (.tmp x) y) (hi : P.info? T = some i)
    (hoj : ops[j]? = some oj) (hx : oj.dst.getD 1000000 = x) (hsj : acc[j]? = some (Spc.al isPt (boxAt B zs) acc.length (boxAt B us))) (hdep : depD ops o j = true) (hy : ∀ u, ev ((x, u) :: L) y = some v) (hc : v.cells.toList = us) (hsz : us.length = i.size) (hl : zs.length = us.length) (h1 : oneCells us = true)
    (h : ParO P W n M R ops K rest (acc ++ [Spc.s j]) L) : ParO P W n M R ops K (o :: rest) acc L := by
  refine p_upd5 (r := boxAt B us) hg hdst hoj hsj rfl rfl hdep (fun u hu => ?_) h
  obtain ⟨b, rfl⟩ := hu
  rw [hx]
  intro Mx Rx a w g1 g3
  have g3 : St W (Mx ++ (bx b B zs :: M)) (Rx ++ R) w := g3
  obtain ⟨w', hr, hw'⟩ := run_storeCells' (P := P) us 0 0 (b := b) (T := B) (vs := zs) (M' := Mx ++ (bx b B us :: M)) g3 (by rw [Nat.zero_add, splice_all hl]; exact ⟨Mx, M, rfl, rfl⟩) (oneCells_mem h1) (by omega)
  have hcs : v.cells.size = i.size := by rw [← hsz, ← hc]; simp
  have hxe : ev ((x, pt b 0) :: L) (.tmp x) = some (pt b 0) := by simp [ev, look_cons_eq]
  have hrun : (execOp a.eval o).run P w = .ok .skip w' := by
    simp [execOp, ho, g1.ev hxe, g1.ev (hy _), Instr.storeAt, pt, Instr.sureAddr, storeVar, run_sizeOf' hi, hcs, hc, hr]
  rw [hrun]
  refine ⟨rfl, ?_⟩
  refine hw'.perm ?_
  show (Mx ++ (bx b B us :: M)).Perm ([bx b B us] ++ (Mx ++ M))
  exact List.perm_middle
end Go.G


namespace Go.G
variable {P : Program} {W : World} {n : Nat} {D : List Deferred} {L : Tm} {M : List Res} {R : List Fact} {Q : Exit → Act → World → Prop} {o : Oper}
end Go.G


namespace Go.G
variable {P : Program} {W : World} {n : Nat} {D : List Deferred} {L : Tm} {M : List Res} {R : List Fact} {Q : Exit → Act → World → Prop} {o : Oper}
structure Cm (f : Int → Int) (l : List MapEntry) : Prop where
  all : ∀ e ∈ l, ∃ z, (Lit.int .i64 z).wf = true ∧ e.key = (Value.int .i64 z) ∧ e.val = (Value.int .i64 (f z))
  nodup : (l.map MapEntry.key).Nodup
  zero : ∀ z, f z ≠ 0 → ∃ e ∈ l, e.key = (Value.int .i64 z)
def updF (f : Int → Int) (z y : Int) : Int → Int := fun x => if x = z then y else f x
theorem Cm.push {f : Int → Int} {l : List MapEntry} {z y : Int} {clock : Nat} (h : Cm f l) (hw : (Lit.int .i64 z).wf = true) (hn : ∀ e ∈ l, e.key ≠ (Value.int .i64 z)) : Cm (updF f z y) (l ++ [{ key := (Value.int .i64 z), val := (Value.int .i64 y), born := clock }]) := by
  refine ⟨fun e he => ?_, ?_, fun z' hz' => ?_⟩
  · rcases List.mem_append.1 he with he | he
    · obtain ⟨z', h1, h2, h3⟩ := h.all e he
      refine ⟨z', h1, h2, ?_⟩
      have : z' ≠ z := fun x => hn e he (by rw [h2, x])
      simp [updF, this, h3]
    · have : e = { key := (Value.int .i64 z), val := (Value.int .i64 y), born := clock } := by simpa using he
      subst this
      exact ⟨z, hw, rfl, by simp [updF]⟩
  · rw [List.map_append, List.nodup_append]
    refine ⟨h.nodup, by simp, fun a ha b hb => ?_⟩
    obtain ⟨e, he, rfl⟩ := List.mem_map.1 ha
    have : b = (Value.int .i64 z) := by simpa using hb
    subst this
    exact hn e he
  · by_cases e : z' = z
    · subst e; exact ⟨_, List.mem_append_right _ (List.mem_singleton.2 rfl), rfl⟩
    · obtain ⟨x, hx, hk⟩ := h.zero z' (by simpa [updF, e] using hz')
      exact ⟨x, List.mem_append_left _ hx, hk⟩
theorem Cm.set {f : Int → Int} {l : List MapEntry} {z y : Int} {j : Nat} {e0 : MapEntry} (h : Cm f l) (hw : (Lit.int .i64 z).wf = true) (hj : l[j]? = some e0) (hk : e0.key = (Value.int .i64 z)) {l' : List MapEntry}
    (hl : ∀ m, l'[m]? = if j = m then some { e0 with key := (Value.int .i64 z), val := (Value.int .i64 y) } else l[m]?) : Cm (updF f z y) l' := by
  have hkeys : l'.map MapEntry.key = l.map MapEntry.key := by
    apply List.ext_getElem?
    intro m
    rw [List.getElem?_map, List.getElem?_map, hl m]
    split
    · rename_i e; subst e; rw [hj]; simp [hk]
    · rfl
  refine ⟨fun e he => ?_, by rw [hkeys]; exact h.nodup, fun z' hz' => ?_⟩
  · obtain ⟨m, hm⟩ := List.mem_iff_getElem?.1 he
    rw [hl m] at hm
    split at hm
    · have : e = { e0 with key := (Value.int .i64 z), val := (Value.int .i64 y) } := by simpa using hm.symm
      subst this
      exact ⟨z, hw, rfl, by simp [updF]⟩
    · rename_i hne
      obtain ⟨z', h1, h2, h3⟩ := h.all e (List.mem_of_getElem? hm)
      refine ⟨z', h1, h2, ?_⟩
      have : z' ≠ z := fun x => by
        subst x
        have k1 : (l.map MapEntry.key)[j]? = some ((Value.int .i64 z')) := by rw [List.getElem?_map, hj]; simp [hk]
        have k2 : (l.map MapEntry.key)[m]? = some ((Value.int .i64 z')) := by rw [List.getElem?_map, hm]; simp [h2]
        have hlt : j < (l.map MapEntry.key).length := (List.getElem?_eq_some_iff.1 k1).1
        exact hne ((List.getElem?_inj hlt h.nodup).1 (k1.trans k2.symm))
      simp [updF, this, h3]
  · have hkk : (Value.int .i64 z') ∈ l'.map MapEntry.key := by
      rw [hkeys]
      by_cases e : z' = z
      · subst e; rw [← hk]; exact List.mem_map_of_mem (List.mem_of_getElem? hj)
      · obtain ⟨x, hx, hkx⟩ := h.zero z' (by simpa [updF, e] using hz')
        rw [← hkx]; exact List.mem_map_of_mem hx
    obtain ⟨x, hx, hkx⟩ := List.mem_map.1 hkk
    exact ⟨x, hx, hkx⟩
end Go.G


namespace Go.G
variable {P : Program} {W : World} {n : Nat} {D : List Deferred} {L : Tm} {M : List Res} {R : List Fact} {Q : Exit → Act → World → Prop} {o : Oper}
end Go.G


namespace Foot4
open Go Go.G

structure T3 where
  a : Int
  b : Int
  c : Int
  deriving DecidableEq, Inhabited
def T3.at (t : T3) (k : Nat) : Int := if k = 0 then t.a else if k = 1 then t.b else t.c
structure Span where
  lo : Int
  hi : Int
  deriving DecidableEq, Inhabited
structure Heap where
  lo : Int
  hi : Int
  sods : Int
  deriving DecidableEq, Inhabited
structure Work where
  rain : List Span
  men : Int
  lim : T3
  dr : T3
  heaps : List Heap

abbrev i64 (n : Int) : Value := .int .i64 n
def encT (t : T3) : List Value := [i64 t.a, i64 t.b, i64 t.c]
def encS (s : Span) : List Value := [i64 s.lo, i64 s.hi]
def encH (h : Heap) : List Value := [i64 h.lo, i64 h.hi, i64 h.sods]
@[reducible] def cellsF (F : Work) (ro : Option Addr) (rc : Nat) (ho : Option Addr) (hc : Nat) : List Value :=
  [.slice ro F.rain.length rc, i64 F.men, i64 F.lim.a, i64 F.lim.b, i64 F.lim.c, i64 F.dr.a, i64 F.dr.b, i64 F.dr.c, .slice ho F.heaps.length hc]
@[reducible] def valF (F : Work) (ro : Option Addr) (rc : Nat) (ho : Option Addr) (hc : Nat) : Value := .agg (cellsF F ro rc ho hc).toArray
@[reducible] def factF (F : Work) (ro ho : Option Addr) : List Fact := [rowD ro 2 encS F.rain, rowD ho 3 encH F.heaps]

theorem t3_at {a b c : Int} {k : Int} (h0 : 0 ≤ k) (h1 : k < 3) : [i64 a, i64 b, i64 c][0 + k.toNat * 1]? = some (i64 (T3.at ⟨a, b, c⟩ k.toNat)) := by
  obtain rfl | rfl | rfl : k = 0 ∨ k = 1 ∨ k = 2 := by omega
  all_goals rfl
theorem t3_atn {a b c : Int} {k : Nat} (h1 : k < 3) : [i64 a, i64 b, i64 c][0 + k * 1]? = some (i64 (T3.at ⟨a, b, c⟩ k)) := by
  obtain rfl | rfl | rfl : k = 0 ∨ k = 1 ∨ k = 2 := by omega
  all_goals rfl
theorem F_limn {F : Work} {v m h : Value} {k : Nat} (h1 : k < 3) : [v, m, i64 F.lim.a, i64 F.lim.b, i64 F.lim.c, i64 F.dr.a, i64 F.dr.b, i64 F.dr.c, h][0 + 2 + k * 1]? = some (i64 (F.lim.at k)) := by
  obtain rfl | rfl | rfl : k = 0 ∨ k = 1 ∨ k = 2 := by omega
  all_goals rfl
theorem F_drn {F : Work} {v m h : Value} {k : Nat} (h1 : k < 3) : [v, m, i64 F.lim.a, i64 F.lim.b, i64 F.lim.c, i64 F.dr.a, i64 F.dr.b, i64 F.dr.c, h][0 + 5 + k * 1]? = some (i64 (F.dr.at k)) := by
  obtain rfl | rfl | rfl : k = 0 ∨ k = 1 ∨ k = 2 := by omega
  all_goals rfl
/-! ### the reference -/
def doneTo (p : T3) (day : Int) : Nat → Int
  | 0 => 0
  | k + 1 => doneTo p day k + (if 0 ≤ p.at k ∧ p.at k ≤ day then 1 else 0)
def Done (p : T3) (day : Int) : Int := doneTo p day 3
def step (n rain dr : Int) : Int := max 0 (n + rain - dr)
def worstTo (F : Work) (heap : Nat) (p : T3) : Nat → Int
  | 0 => (F.heaps.getD heap default).hi
  | d + 1 => if Done p d < 3 then step (worstTo F heap p d) (F.rain.getD d default).hi (F.dr.at (Done p d).toNat) else worstTo F heap p d
def bestTo (F : Work) (heap : Nat) (p : T3) : Nat → Int
  | 0 => (F.heaps.getD heap default).lo
  | d + 1 => if Done p d < 3 then step (bestTo F heap p d) (F.rain.getD d default).lo (F.dr.at (Done p d).toNat) else bestTo F heap p d
theorem all_step {p : Nat → Prop} {k : Nat} (h : ∀ j, j < k → p j) (hk : p k) : ∀ j, j < k + 1 → p j := fun j hj => by
  by_cases e : j = k
  · subst e; exact hk
  · exact h j (by omega)
def SpanOk (s : Span) (m : Int) : Prop := 0 ≤ s.lo ∧ s.lo ≤ s.hi ∧ s.hi ≤ m
instance (s : Span) (m : Int) : Decidable (SpanOk s m) := by unfold SpanOk; infer_instance
/-- The work is valid. -/
def GoodF (F : Work) : Prop := (1 ≤ (F.rain.length : Int) ∧ (F.rain.length : Int) ≤ 8) ∧ (0 ≤ F.men ∧ F.men ≤ 3) ∧ (F.heaps.length : Int) ≤ 3 ∧ (∀ k, k < F.rain.length → 0 ≤ (F.rain.getD k default).lo ∧ (F.rain.getD k default).lo ≤ (F.rain.getD k default).hi ∧ (F.rain.getD k default).hi ≤ 10) ∧
  (∀ k, k < 3 → (0 ≤ F.lim.at k ∧ F.lim.at k ≤ 60) ∧ (0 ≤ F.dr.at k ∧ F.dr.at k ≤ 10)) ∧
  (∀ k, k < F.heaps.length → (0 ≤ (F.heaps.getD k default).lo ∧ (F.heaps.getD k default).lo ≤ (F.heaps.getD k default).hi ∧ (F.heaps.getD k default).hi ≤ 60) ∧ (0 ≤ (F.heaps.getD k default).sods ∧ (F.heaps.getD k default).sods ≤ 500))
instance (F : Work) : Decidable (GoodF F) := by unfold GoodF; infer_instance
def Ordered (p : T3) (k : Nat) : Prop := p.at k < 0 ∨ k = 0 ∨ (0 ≤ p.at (k - 1) ∧ p.at (k - 1) < p.at k)
instance (p : T3) (k : Nat) : Decidable (Ordered p k) := by unfold Ordered; infer_instance
def Days (n : Nat) (p : T3) : Prop := ∀ k, k < 3 → -1 ≤ p.at k ∧ p.at k ≤ (n : Int) - 1
instance (n : Nat) (p : T3) : Decidable (Days n p) := by unfold Days; infer_instance
def IsPlan (n : Nat) (p : T3) : Prop := Days n p ∧ Ordered p 0 ∧ Ordered p 1 ∧ Ordered p 2
instance (n : Nat) (p : T3) : Decidable (IsPlan n p) := by unfold IsPlan; infer_instance
/-- All whole plans, in order. -/
def cs3 (n a b : Nat) : List T3 := (List.range' (b + 1) (n - (b + 1))).map fun c : Nat => ⟨a, b, c⟩
def bs3 (n a : Nat) : List T3 := (List.range' (a + 1) (n - (a + 1))).flatMap (cs3 n a)
def whole (n : Nat) : List T3 := (List.range n).flatMap (bs3 n)
def wholeA (n a : Nat) : List T3 := (List.range a).flatMap (bs3 n)
def wholeB (n a b : Nat) : List T3 := wholeA n a ++ (List.range' (a + 1) (b - (a + 1))).flatMap (cs3 n a)
def wholeC (n a b c : Nat) : List T3 := wholeB n a b ++ (List.range' (b + 1) (c - (b + 1))).map fun c : Nat => (⟨a, b, c⟩ : T3)
theorem range'_next {s c : Nat} (h : s ≤ c) : List.range' s (c + 1 - s) = List.range' s (c - s) ++ [c] := by
  rw [show c + 1 - s = (c - s) + 1 from by omega, List.range'_1_concat, show s + (c - s) = c from by omega]
theorem wholeC_step {n a b c : Nat} (h : b < c) : wholeC n a b (c + 1) = wholeC n a b c ++ [⟨a, b, c⟩] := by
  unfold wholeC; rw [range'_next (by omega)]; simp
theorem wholeC_0 {n a b : Nat} : wholeB n a b = wholeC n a b (b + 1) := by simp [wholeC]
theorem wholeB_step {n a b : Nat} (h : a < b) : wholeC n a b (max n (b + 1)) = wholeB n a (b + 1) := by
  unfold wholeC wholeB; rw [range'_next (by omega)]
  simp only [List.flatMap_append, List.flatMap_cons, List.flatMap_nil, List.append_nil, List.append_assoc]
  congr 2
  unfold cs3
  rw [show max n (b + 1) - (b + 1) = n - (b + 1) from by omega]
theorem wholeB_0 {n a : Nat} : wholeA n a = wholeB n a (a + 1) := by simp [wholeB]
theorem wholeA_step {n a : Nat} : wholeB n a (max n (a + 1)) = wholeA n (a + 1) := by
  unfold wholeB wholeA; rw [List.range_succ]
  simp only [List.flatMap_append, List.flatMap_cons, List.flatMap_nil, List.append_nil]
  congr 1
  unfold bs3
  rw [show max n (a + 1) - (a + 1) = n - (a + 1) from by omega]
theorem flatMap_len {α β : Type} (f : α → List β) (k : Nat) : ∀ (l : List α), (∀ x ∈ l, (f x).length ≤ k) → (l.flatMap f).length ≤ l.length * k
  | [], _ => by simp
  | x :: r, h => by
    have h1 := h x (by simp)
    have h2 := flatMap_len f k r (fun y hy => h y (by simp [hy]))
    simp only [List.flatMap_cons, List.length_append, List.length_cons, Nat.add_mul]
    omega
theorem wholeC_len {n a b c : Nat} (hn : n ≤ 8) (ha : a ≤ 8) (hb : b ≤ 9) (hc : c ≤ 10) : (wholeC n a b c).length ≤ 1000 := by
  have hcs : ∀ a b, (cs3 n a b).length ≤ 8 := fun a b => by simp [cs3]; omega
  have hbs : ∀ a, (bs3 n a).length ≤ 64 := fun a => by
    have := flatMap_len (cs3 n a) 8 (List.range' (a + 1) (n - (a + 1))) (fun b _ => hcs a b)
    simp only [List.length_range'] at this
    unfold bs3
    have : (n - (a + 1)) * 8 ≤ 8 * 8 := Nat.mul_le_mul_right _ (by omega)
    omega
  have h1 := flatMap_len (bs3 n) 64 (List.range a) (fun a _ => hbs a)
  have h2 := flatMap_len (cs3 n a) 8 (List.range' (a + 1) (b - (a + 1))) (fun b _ => hcs a b)
  simp only [List.length_range, List.length_range'] at h1 h2
  unfold wholeC wholeB wholeA
  simp only [List.length_append, List.length_map, List.length_range']
  have : a * 64 ≤ 8 * 64 := Nat.mul_le_mul_right _ ha
  have : (b - (a + 1)) * 8 ≤ 9 * 8 := Nat.mul_le_mul_right _ (by omega)
  omega
theorem encT_len (t : T3) : (encT t).length = 3 := rfl
theorem encS_len (t : Span) : (encS t).length = 2 := rfl
theorem encH_len (t : Heap) : (encH t).length = 3 := rfl
/-- The bounds that a walk wants. -/
structure Bnd (F : Work) : Prop where
  rain : ∀ k, 0 ≤ (F.rain.getD k default).lo ∧ (F.rain.getD k default).lo ≤ 10 ∧ 0 ≤ (F.rain.getD k default).hi ∧ (F.rain.getD k default).hi ≤ 10
  dr : ∀ k, 0 ≤ F.dr.at k ∧ F.dr.at k ≤ 10
  len : F.rain.length ≤ 8
  heap : ∀ k, 0 ≤ (F.heaps.getD k default).lo ∧ (F.heaps.getD k default).lo ≤ 60 ∧ 0 ≤ (F.heaps.getD k default).hi ∧ (F.heaps.getD k default).hi ≤ 60
theorem GoodF.bnd {F : Work} (g : GoodF F) : Bnd F := by
  obtain ⟨g1, g2, g3, g4, g5, g6⟩ := g
  refine ⟨fun k => ?_, fun k => ?_, by omega, fun k => ?_⟩
  · by_cases h : k < F.rain.length
    · have := g4 k h; omega
    · have : F.rain.getD k default = default := by simp [List.getD, List.getElem?_eq_none (by omega : F.rain.length ≤ k)]
      rw [this]; decide
  · by_cases h : k < 3
    · exact (g5 k h).2
    · have : F.dr.at k = F.dr.at 2 := by simp [T3.at]; omega
      rw [this]; exact (g5 2 (by omega)).2
  · by_cases h : k < F.heaps.length
    · have := g6 k h; omega
    · have : F.heaps.getD k default = default := by simp [List.getD, List.getElem?_eq_none (by omega : F.heaps.length ≤ k)]
      rw [this]; decide
/-- The errors. -/
def chk (F : Work) (v : Bool) : Int := if GoodF F then (if v then 0 else 2) else 1
theorem chk_false (F : Work) : chk F false ≠ 0 := by unfold chk; split <;> simp
def okStep (F : Work) (wx : Work → Nat → T3 → Nat → Int) (heap : Nat) (p : T3) (k : Nat) : Prop := p.at k < 0 ∨ wx F heap p (p.at k).toNat ≤ F.lim.at k
instance (F : Work) (wx : Work → Nat → T3 → Nat → Int) (heap : Nat) (p : T3) (k : Nat) : Decidable (okStep F wx heap p k) := by unfold okStep; infer_instance
theorem step_bd {n r d B : Int} (h0 : 0 ≤ n) (h1 : n ≤ B) (h2 : 0 ≤ r) (h3 : r ≤ 10) (h4 : 0 ≤ d) : 0 ≤ step n r d ∧ step n r d ≤ B + 10 := by
  unfold step; omega
theorem Bnd.wet {F : Work} (h : Bnd F) (heap d : Nat) (p : T3) : 0 ≤ worstTo F heap p d ∧ worstTo F heap p d ≤ 60 + 10 * d := by
  induction d with
  | zero => have := h.heap heap; simp only [worstTo]; omega
  | succ d ih =>
    simp only [worstTo]
    split
    · have := h.rain d; have := h.dr (Done p d).toNat
      have := step_bd ih.1 ih.2 (by omega : 0 ≤ (F.rain.getD d default).hi) (by omega) (h.dr (Done p d).toNat).1
      omega
    · omega
end Foot4


namespace Sod2
open Go Go.G Foot4

structure Spit where
  sods : Int
  lo : Int
  hi : Int
  deriving DecidableEq, Inhabited
structure LogS where
  day : Int
  lo : Int
  hi : Int
  deriving DecidableEq, Inhabited
structure Bank where
  spits : List Spit
  days : List Span
  logs : List LogS
def encSp (p : Spit) : List Value := [i64 p.sods, i64 p.lo, i64 p.hi]
def encLg (l : LogS) : List Value := [i64 l.day, i64 l.lo, i64 l.hi]
theorem encSp_len (t : Spit) : (encSp t).length = 3 := rfl
theorem encLg_len (t : LogS) : (encLg t).length = 3 := rfl
@[reducible] def cellsS (B : Bank) (po : Option Addr) (pc : Nat) (so : Option Addr) (sc : Nat) (lo : Option Addr) (lc : Nat) : List Value :=
  [.slice po B.spits.length pc, .slice so B.days.length sc, .slice lo B.logs.length lc]
@[reducible] def valS (B : Bank) (po : Option Addr) (pc : Nat) (so : Option Addr) (sc : Nat) (lo : Option Addr) (lc : Nat) : Value := .agg (cellsS B po pc so sc lo lc).toArray

/-- The bank is valid. -/
def GoodS (B : Bank) : Prop := (1 ≤ (B.spits.length : Int) ∧ (B.spits.length : Int) ≤ 3) ∧ (1 ≤ (B.days.length : Int) ∧ (B.days.length : Int) ≤ 6) ∧ (B.logs.length : Int) ≤ 4 ∧
  (∀ k, k < B.spits.length → (1 ≤ (B.spits.getD k default).sods ∧ (B.spits.getD k default).sods ≤ 30) ∧ (1 ≤ (B.spits.getD k default).lo ∧ (B.spits.getD k default).lo ≤ (B.spits.getD k default).hi ∧ (B.spits.getD k default).hi ≤ 6) ∧ (B.spits.getD k default).hi - (B.spits.getD k default).lo ≤ 2) ∧
  (∀ k, k < B.days.length → 0 ≤ (B.days.getD k default).lo ∧ (B.days.getD k default).lo ≤ (B.days.getD k default).hi ∧ (B.days.getD k default).hi ≤ 100) ∧
  (∀ k, k < B.logs.length → (0 ≤ (B.logs.getD k default).day ∧ (B.logs.getD k default).day ≤ (B.days.length : Int) - 1) ∧ (0 ≤ (B.logs.getD k default).lo ∧ (B.logs.getD k default).lo ≤ (B.logs.getD k default).hi ∧ (B.logs.getD k default).hi ≤ 200))
instance (B : Bank) : Decidable (GoodS B) := by unfold GoodS; infer_instance
/-- The bounds that a walk wants. -/
structure BndS (B : Bank) : Prop where
  spit : ∀ k, 0 ≤ (B.spits.getD k default).sods ∧ (B.spits.getD k default).sods ≤ 30 ∧ 0 ≤ (B.spits.getD k default).lo ∧ (B.spits.getD k default).lo ≤ 6 ∧ 0 ≤ (B.spits.getD k default).hi ∧ (B.spits.getD k default).hi ≤ 6
  day : ∀ k, 0 ≤ (B.days.getD k default).lo ∧ (B.days.getD k default).lo ≤ 100 ∧ 0 ≤ (B.days.getD k default).hi ∧ (B.days.getD k default).hi ≤ 100
  log : ∀ k, 0 ≤ (B.logs.getD k default).day ∧ (B.logs.getD k default).day ≤ 5 ∧ 0 ≤ (B.logs.getD k default).lo ∧ (B.logs.getD k default).lo ≤ 200 ∧ 0 ≤ (B.logs.getD k default).hi ∧ (B.logs.getD k default).hi ≤ 200
theorem GoodS.bnd {B : Bank} (g : GoodS B) : BndS B := by
  obtain ⟨g1, g2, g3, g4, g5, g6⟩ := g
  refine ⟨fun k => ?_, fun k => ?_, fun k => ?_⟩
  · by_cases h : k < B.spits.length
    · have := g4 k h; omega
    · have : B.spits.getD k default = default := by simp [List.getD, List.getElem?_eq_none (by omega : B.spits.length ≤ k)]
      rw [this]; decide
  · by_cases h : k < B.days.length
    · have := g5 k h; omega
    · have : B.days.getD k default = default := by simp [List.getD, List.getElem?_eq_none (by omega : B.days.length ≤ k)]
      rw [this]; decide
  · by_cases h : k < B.logs.length
    · have := g6 k h; omega
    · have : B.logs.getD k default = default := by simp [List.getD, List.getElem?_eq_none (by omega : B.logs.length ≤ k)]
      rw [this]; decide

/-! ### how many sods some strokes cut -/
def cutL (c : T3) : List Spit → Nat → Int → Int
  | [], _, _ => 0
  | p :: ps, i, m => if min p.sods (m / c.at i) < p.sods then min p.sods (m / c.at i) else min p.sods (m / c.at i) + cutL c ps (i + 1) (m - min p.sods (m / c.at i) * c.at i)
def sodsOf (B : Bank) (c : T3) (m : Int) : Int := cutL c B.spits 0 m
/-- m less x, so many times. -/
def dec (m x : Int) : Nat → Int
  | 0 => m
  | j + 1 => dec m x j - x
theorem dec_eq (m x : Int) (j : Nat) : dec m x j = m - j * x := by
  induction j with
  | zero => simp [dec]
  | succ j ih => rw [dec, ih]; simp only [Int.natCast_add, Int.natCast_one, Int.add_mul]; omega
theorem min_i {a b : Int} (h : a ≤ b) : min a b = a := by omega
theorem min_j {a b : Int} (h : b ≤ a) : min a b = b := by omega
theorem div_is {m x : Int} {j : Nat} (hx : 0 < x) (h0 : 0 ≤ dec m x j) (h1 : dec m x j < x) : m / x = j := by
  rw [dec_eq] at h0 h1
  have e : m = x * j + (m - j * x) := by rw [Int.mul_comm x]; omega
  rw [e, Int.mul_add_ediv_left _ _ (by omega), Int.ediv_eq_zero_of_lt h0 h1]; omega
theorem div_ge {m x : Int} {j : Nat} (hx : 0 < x) (h0 : 0 ≤ dec m x j) : (j : Int) ≤ m / x := by
  rw [dec_eq] at h0
  exact (Int.le_ediv_iff_mul_le hx).2 (by omega)
theorem cut_stop {c : T3} {p : Spit} {ps : List Spit} {i : Nat} {m : Int} {j : Nat} (hx : 0 < c.at i) (h0 : 0 ≤ dec m (c.at i) j) (h1 : dec m (c.at i) j < c.at i) (hj : (j : Int) < p.sods) : cutL c (p :: ps) i m = j := by
  rw [cutL, div_is hx h0 h1, min_j (by omega), if_pos hj]
theorem cut_on {c : T3} {p : Spit} {ps : List Spit} {i : Nat} {m : Int} {j : Nat} (hx : 0 < c.at i) (h0 : 0 ≤ dec m (c.at i) j) (hj : (j : Int) = p.sods) : cutL c (p :: ps) i m = j + cutL c ps (i + 1) (dec m (c.at i) j) := by
  have := div_ge hx h0
  rw [cutL, min_i (by omega), if_neg (by omega), ← hj, dec_eq]
theorem drop_cons {α : Type} {l : List α} {k : Nat} [Inhabited α] (h : k < l.length) : l.drop k = l.getD k default :: l.drop (k + 1) := by
  rw [List.getD_eq_getElem?_getD, List.getElem?_eq_getElem h]; simp
/-- From the k-th spit on. -/
def cutK (B : Bank) (c : T3) (k : Nat) (m : Int) : Int := cutL c (B.spits.drop k) k m
theorem cutK_0 {B : Bank} {c : T3} {m : Int} : cutK B c 0 m = sodsOf B c m := rfl
theorem cutK_end {B : Bank} {c : T3} {k : Nat} {m : Int} (h : B.spits.length ≤ k) : cutK B c k m = 0 := by
  unfold cutK; rw [List.drop_eq_nil_of_le h]; rfl
theorem cutK_stop {B : Bank} {c : T3} {k : Nat} {m : Int} {j : Nat} (hk : k < B.spits.length) (hx : 0 < c.at k) (h0 : 0 ≤ dec m (c.at k) j) (h1 : dec m (c.at k) j < c.at k) (hj : (j : Int) < (B.spits.getD k default).sods) : cutK B c k m = j := by
  unfold cutK; rw [drop_cons hk]; exact cut_stop hx h0 h1 hj
theorem cutK_on {B : Bank} {c : T3} {k : Nat} {m : Int} {j : Nat} (hk : k < B.spits.length) (hx : 0 < c.at k) (h0 : 0 ≤ dec m (c.at k) j) (hj : (j : Int) = (B.spits.getD k default).sods) : cutK B c k m = j + cutK B c (k + 1) (dec m (c.at k) j) := by
  unfold cutK; rw [drop_cons hk]; exact cut_on hx h0 hj
/-- As the reference goes: by division. -/
theorem cutK_div {B : Bank} {c : T3} {k : Nat} {m : Int} (hk : k < B.spits.length) : cutK B c k m = if min (B.spits.getD k default).sods (m / c.at k) < (B.spits.getD k default).sods then min (B.spits.getD k default).sods (m / c.at k) else min (B.spits.getD k default).sods (m / c.at k) + cutK B c (k + 1) (m - min (B.spits.getD k default).sods (m / c.at k) * c.at k) := by
  unfold cutK; rw [drop_cons hk, cutL]

/-! ### how many strokes some sods take -/
def strS (B : Bank) (c : T3) (s : Int) : Nat → Int × Int
  | 0 => (0, s)
  | k + 1 => ((strS B c s k).1 + min (strS B c s k).2 (B.spits.getD k default).sods * c.at k, (strS B c s k).2 - min (strS B c s k).2 (B.spits.getD k default).sods)
def strokes (B : Bank) (c : T3) (s : Int) : Int := if 0 < (strS B c s B.spits.length).2 then 1048576 else (strS B c s B.spits.length).1

/-! ### what there can have been by each day -/
def cntTo (B : Bank) (c : T3) (d : Nat) (m : Span) : Nat → Span
  | 0 => m
  | k + 1 => if (B.logs.getD k default).day = d then ⟨max (cntTo B c d m k).lo (strokes B c (B.logs.getD k default).lo), min (cntTo B c d m k).hi (strokes B c ((B.logs.getD k default).hi + 1) - 1)⟩ else cntTo B c d m k
def nowF (B : Bank) (c : T3) : Nat → Span
  | 0 => ⟨0, 0⟩
  | d + 1 => cntTo B c d ⟨(nowF B c d).lo + (B.days.getD d default).lo, (nowF B c d).hi + (B.days.getD d default).hi⟩ B.logs.length
/-- Strokes are some up to the day d. -/
def someTo (B : Bank) (c : T3) (d : Nat) : Prop := ∀ k, k < d → (nowF B c (k + 1)).lo ≤ (nowF B c (k + 1)).hi
instance (B : Bank) (c : T3) (d : Nat) : Decidable (someTo B c d) := by unfold someTo; infer_instance
abbrev canC (B : Bank) (c : T3) : Prop := someTo B c B.days.length
/-- j days before the last one. -/
def bk (B : Bank) (c : T3) : Nat → Span
  | 0 => nowF B c B.days.length
  | j + 1 => ⟨max (nowF B c (B.days.length - 1 - j)).lo ((bk B c j).lo - (B.days.getD (B.days.length - 1 - j) default).hi), min (nowF B c (B.days.length - 1 - j)).hi ((bk B c j).hi - (B.days.getD (B.days.length - 1 - j) default).lo)⟩
def lastF (B : Bank) (c : T3) (d : Nat) : Span := bk B c (B.days.length - 1 - d)
/-- The days' array: forward up to the day d. -/
def fwdD (B : Bank) (c : T3) (d : Nat) : Nat → Span := fun i => if i < d then nowF B c (i + 1) else ⟨0, 0⟩
/-- and back down to the day d. -/
def bckD (B : Bank) (c : T3) (d : Nat) : Nat → Span := fun i => if i < B.days.length then (if d ≤ i then lastF B c i else nowF B c (i + 1)) else ⟨0, 0⟩
/-- The first day by which there are none, or the number of days. -/
def upTo (B : Bank) (c : T3) : Nat → Nat
  | 0 => 0
  | d + 1 => if someTo B c d ∧ ¬ (nowF B c (d + 1)).lo ≤ (nowF B c (d + 1)).hi then d else upTo B c d
def logD (B : Bank) (c : T3) : Nat → Span := if canC B c then bckD B c 0 else fwdD B c (upTo B c B.days.length)
/-! ### all costs -/
def set3 (t : T3) (k : Nat) (x : Int) : T3 := if k = 0 then ⟨x, t.b, t.c⟩ else if k = 1 then ⟨t.a, x, t.c⟩ else ⟨t.a, t.b, x⟩
def costsL : List Spit → Nat → T3 → List T3
  | [], _, c => [c]
  | p :: ps, i, c => (List.range (p.hi - p.lo + 1).toNat).flatMap fun j : Nat => costsL ps (i + 1) (set3 c i (p.lo + j))
def allC (B : Bank) : List T3 := costsL B.spits 0 ⟨0, 0, 0⟩
def canS (B : Bank) : Prop := ∃ c ∈ allC B, canC B c
instance (B : Bank) : Decidable (canS B) := by unfold canS; infer_instance
/-- The costs with which there is a truth. -/
def goodC (B : Bank) : List T3 := (allC B).filter fun c => decide (canC B c)
def cutSp (B : Bank) (d : Nat) (c : T3) : Span := ⟨sodsOf B c (logD B c d).lo, sodsOf B c (logD B c d).hi⟩
end Sod2


namespace Sod2
open Go Go.G Foot4
def encI (x : Int) : List Value := [i64 x]
theorem encI_len (x : Int) : (encI x).length = 1 := rfl
def ofL (l : List Int) : T3 := ⟨l.getD 0 default, l.getD 1 default, l.getD 2 default⟩
theorem at_ofL {l : List Int} {k : Nat} (h : k < 3) : (ofL l).at k = l.getD k default := by
  obtain rfl | rfl | rfl : k = 0 ∨ k = 1 ∨ k = 2 := by omega
  all_goals rfl
/-- A product with a quotient. -/
structure MinMul (s m x : Int) : Prop where
  lo : 0 ≤ min s (m / x) * x
  hi : min s (m / x) * x ≤ m
theorem min_mul {s m x : Int} (hs : 0 ≤ s) (hm : 0 ≤ m) (hx : 0 < x) : MinMul s m x := by
  have h0 : 0 ≤ m / x := Int.ediv_nonneg hm (by omega)
  refine ⟨Int.mul_nonneg (by omega) (by omega), ?_⟩
  have h1 : min s (m / x) * x ≤ m / x * x := Int.mul_le_mul_of_nonneg_right (by omega) (by omega)
  have h2 : m / x * x ≤ m := Int.ediv_mul_le m (by omega)
  omega
theorem MinMul.bd {s m x : Int} (h : MinMul s m x) (hm : m ≤ 1000000) : -9223372036854775808 ≤ min s (m / x) * x ∧ min s (m / x) * x ≤ 9223372036854775807 := by
  have := h.lo
  have := h.hi
  omega
end Sod2


namespace Go.Proofs.Ytpndeonmmcaikaa.SodW
open Go.G Foot4 Sod2
set_option maxRecDepth 1000000
attribute [local irreducible] G.ParO G.Fin
variable (B : Bank) (po so lo : Option Addr) (pc sc lc : Nat)
set_option maxHeartbeats 4000000 in
theorem in_v (a b c : Int) : FnV Try.prog 21 [i64 a, i64 b, i64 c] [] (.bool (decide (b ≤ a ∧ a ≤ c))) := by
 refine FnV.intro Try.call21 Try.func21 rfl Try.ntmps21 rfl ?_
 intro W M Rf
 refine r_seq ?_
 refine r_region ?_
 refine o_q _ rfl rfl rfl (v_assign rfl rfl) ?_
 refine o_nil ?_
 repeat (first | with_reducible refine r_then ?_ | with_reducible refine r_in_normal ?_ | with_reducible refine r_sc_normal ?_)
 refine r_seq ?_
 refine r_region ?_
 refine o_q _ rfl rfl rfl (v_move rfl rfl) ?_
 refine o_q _ rfl rfl rfl (v_move rfl rfl) ?_
 first | refine o_q _ rfl rfl rfl (v_true (v_leq rfl rfl rfl) (by omega)) ?_ | refine o_q _ rfl rfl rfl (v_false (v_leq rfl rfl rfl) (by omega)) ?_ | refine o_test rfl rfl rfl (v_leq rfl rfl rfl) (fun h9 => ?_) (fun h9 => ?_)
 all_goals
  refine o_q _ rfl rfl rfl (v_move rfl rfl) ?_
  first | refine o_gn rfl rfl rfl rfl ?_ | refine o_g _ rfl rfl rfl rfl (v_move rfl rfl) ?_
  first | refine o_gn rfl rfl rfl rfl ?_ | refine o_g _ rfl rfl rfl rfl (v_move rfl rfl) ?_
  first | refine o_gn rfl rfl rfl rfl ?_ | refine o_g _ rfl rfl rfl rfl (v_true (v_leq rfl rfl rfl) (by omega)) ?_ | refine o_g _ rfl rfl rfl rfl (v_false (v_leq rfl rfl rfl) (by omega)) ?_ | refine o_gtest rfl rfl rfl rfl (v_leq rfl rfl rfl) (fun h13 => ?_) (fun h13 => ?_)
  all_goals
   first | refine o_q _ rfl rfl rfl (v_pick_t rfl rfl rfl) ?_ | refine o_q _ rfl rfl rfl (v_pick_f rfl rfl rfl) ?_
   refine o_q _ rfl rfl rfl (v_assign rfl rfl) ?_
   refine o_nil ?_
   repeat (first | with_reducible refine r_then ?_ | with_reducible refine r_in_normal ?_ | with_reducible refine r_sc_normal ?_)
   refine r_ret ?_
   repeat (first | with_reducible refine r_then_ret ?_ | with_reducible refine r_in_ret ?_ | with_reducible refine r_sc_ret ?_)
   first | exact r_retv2 (Rd.tmp rfl rfl) rfl SelMC.sel SubRC.sub | exact r_retv2 (Rd.tmp rfl rfl) (congrArg Value.bool (decide_eq_true (by omega)).symm) SelMC.sel SubRC.sub | exact r_retv2 (Rd.tmp rfl rfl) (congrArg Value.bool (decide_eq_false (by omega)).symm) SelMC.sel SubRC.sub
set_option maxHeartbeats 4000000 in
theorem span_v (lo hi a b : Int) : FnV Try.prog 22 [.agg #[i64 lo, i64 hi], i64 a, i64 b] [] (.bool (decide (a ≤ lo ∧ lo ≤ hi ∧ hi ≤ b))) := by
 refine FnV.intro Try.call22 Try.func22 rfl Try.ntmps22 rfl ?_
 intro W M Rf
 refine r_seq ?_
 refine r_region ?_
 refine o_boxA rfl rfl rfl rfl rfl (fun b3 => ?_)
 refine o_q _ rfl rfl rfl (v_assign rfl rfl) ?_
 refine o_nil ?_
 repeat (first | with_reducible refine r_then ?_ | with_reducible refine r_in_normal ?_ | with_reducible refine r_sc_normal ?_)
 refine r_seq ?_
 refine r_region ?_
 refine o_q _ rfl rfl rfl (v_move rfl rfl) ?_
 first | refine o_q _ rfl rfl rfl (v_fieldAddr rfl Try.underlying42 inf3 rfl rfl rfl rfl) ?_ | refine o_q _ rfl rfl rfl (v_fieldAddrE rfl Try.underlying42 inf3 rfl rfl rfl rfl) ?_
 first | refine o_q _ rfl rfl rfl (v_ld1 rfl Try.underlying3 rfl rfl rfl) ?_ | refine o_q _ rfl rfl rfl (v_lf1 rfl Try.underlying3 rfl rfl rfl) ?_ | refine o_q _ rfl rfl rfl (v_loadE1 rfl Try.underlying3 rfl rfl (by omega) rfl rfl) ?_
 first | refine o_q _ rfl rfl rfl (v_true (v_leq rfl rfl rfl) (by omega)) ?_ | refine o_q _ rfl rfl rfl (v_false (v_leq rfl rfl rfl) (by omega)) ?_ | refine o_test rfl rfl rfl (v_leq rfl rfl rfl) (fun h10 => ?_) (fun h10 => ?_)
 all_goals
  refine o_q _ rfl rfl rfl (v_move rfl rfl) ?_
  first | refine o_gn rfl rfl rfl rfl ?_ | refine o_g _ rfl rfl rfl rfl (v_fieldAddr rfl Try.underlying42 inf3 rfl rfl rfl rfl) ?_ | refine o_g _ rfl rfl rfl rfl (v_fieldAddrE rfl Try.underlying42 inf3 rfl rfl rfl rfl) ?_
  first | refine o_gn rfl rfl rfl rfl ?_ | refine o_g _ rfl rfl rfl rfl (v_ld1 rfl Try.underlying3 rfl rfl rfl) ?_ | refine o_g _ rfl rfl rfl rfl (v_lf1 rfl Try.underlying3 rfl rfl rfl) ?_ | refine o_g _ rfl rfl rfl rfl (v_loadE1 rfl Try.underlying3 rfl rfl (by omega) rfl rfl) ?_
  first | refine o_gn rfl rfl rfl rfl ?_ | refine o_g _ rfl rfl rfl rfl (v_fieldAddr rfl Try.underlying42 inf3 rfl rfl rfl rfl) ?_ | refine o_g _ rfl rfl rfl rfl (v_fieldAddrE rfl Try.underlying42 inf3 rfl rfl rfl rfl) ?_
  first | refine o_gn rfl rfl rfl rfl ?_ | refine o_g _ rfl rfl rfl rfl (v_ld1 rfl Try.underlying3 rfl rfl rfl) ?_ | refine o_g _ rfl rfl rfl rfl (v_lf1 rfl Try.underlying3 rfl rfl rfl) ?_ | refine o_g _ rfl rfl rfl rfl (v_loadE1 rfl Try.underlying3 rfl rfl (by omega) rfl rfl) ?_
  first | refine o_gn rfl rfl rfl rfl ?_ | refine o_g _ rfl rfl rfl rfl (v_true (v_leq rfl rfl rfl) (by omega)) ?_ | refine o_g _ rfl rfl rfl rfl (v_false (v_leq rfl rfl rfl) (by omega)) ?_ | refine o_gtest rfl rfl rfl rfl (v_leq rfl rfl rfl) (fun h16 => ?_) (fun h16 => ?_)
  all_goals
   first | refine o_q _ rfl rfl rfl (v_pick_t rfl rfl rfl) ?_ | refine o_q _ rfl rfl rfl (v_pick_f rfl rfl rfl) ?_
   refine o_q _ rfl rfl rfl (v_move rfl rfl) ?_
   first | refine o_gn rfl rfl rfl rfl ?_ | refine o_g _ rfl rfl rfl rfl (v_fieldAddr rfl Try.underlying42 inf3 rfl rfl rfl rfl) ?_ | refine o_g _ rfl rfl rfl rfl (v_fieldAddrE rfl Try.underlying42 inf3 rfl rfl rfl rfl) ?_
   first | refine o_gn rfl rfl rfl rfl ?_ | refine o_g _ rfl rfl rfl rfl (v_ld1 rfl Try.underlying3 rfl rfl rfl) ?_ | refine o_g _ rfl rfl rfl rfl (v_lf1 rfl Try.underlying3 rfl rfl rfl) ?_ | refine o_g _ rfl rfl rfl rfl (v_loadE1 rfl Try.underlying3 rfl rfl (by omega) rfl rfl) ?_
   first | refine o_gn rfl rfl rfl rfl ?_ | refine o_g _ rfl rfl rfl rfl (v_move rfl rfl) ?_
   first | refine o_gn rfl rfl rfl rfl ?_ | refine o_g _ rfl rfl rfl rfl (v_true (v_leq rfl rfl rfl) (by omega)) ?_ | refine o_g _ rfl rfl rfl rfl (v_false (v_leq rfl rfl rfl) (by omega)) ?_ | refine o_gtest rfl rfl rfl rfl (v_leq rfl rfl rfl) (fun h22 => ?_) (fun h22 => ?_)
   all_goals
    first | refine o_q _ rfl rfl rfl (v_pick_t rfl rfl rfl) ?_ | refine o_q _ rfl rfl rfl (v_pick_f rfl rfl rfl) ?_
    refine o_q _ rfl rfl rfl (v_assign rfl rfl) ?_
    refine o_nil ?_
    repeat (first | with_reducible refine r_then ?_ | with_reducible refine r_in_normal ?_ | with_reducible refine r_sc_normal ?_)
    refine r_ret ?_
    repeat (first | with_reducible refine r_then_ret ?_ | with_reducible refine r_in_ret ?_ | with_reducible refine r_sc_ret ?_)
    first | exact r_retv2 (Rd.tmp rfl rfl) rfl SelMC.sel SubRC.sub | exact r_retv2 (Rd.tmp rfl rfl) (congrArg Value.bool (decide_eq_true (by omega)).symm) SelMC.sel SubRC.sub | exact r_retv2 (Rd.tmp rfl rfl) (congrArg Value.bool (decide_eq_false (by omega)).symm) SelMC.sel SubRC.sub
set_option maxHeartbeats 4000000 in
theorem Day_v (x : Int) (hl1 : B.spits.length ≤ 40) (hl2 : B.days.length ≤ 40) (hl3 : B.logs.length ≤ 40) : FnV Try.prog 23 [valS B po pc so sc lo lc, i64 x] [rowD po 3 encSp B.spits, rowD so 2 encS B.days, rowD lo 3 encLg B.logs] (.bool (decide (0 ≤ x ∧ x ≤ (B.days.length : Int) - 1))) := by
 refine FnV.intro Try.call23 Try.func23 rfl Try.ntmps23 rfl ?_
 intro W M Rf
 refine r_seq ?_
 refine r_region ?_
 refine o_boxA rfl rfl rfl rfl rfl (fun b2 => ?_)
 refine o_q _ rfl rfl rfl (v_assign rfl rfl) ?_
 refine o_nil ?_
 repeat (first | with_reducible refine r_then ?_ | with_reducible refine r_in_normal ?_ | with_reducible refine r_sc_normal ?_)
 refine r_seq ?_
 refine r_region ?_
 refine o_q _ rfl rfl rfl (v_move rfl rfl) ?_
 first | refine o_q _ rfl rfl rfl (v_fieldAddr rfl Try.underlying37 inf22 rfl rfl rfl rfl) ?_ | refine o_q _ rfl rfl rfl (v_fieldAddrE rfl Try.underlying37 inf22 rfl rfl rfl rfl) ?_
 first | refine o_q _ rfl rfl rfl (v_ld1 rfl Try.underlying22 rfl rfl rfl) ?_ | refine o_q _ rfl rfl rfl (v_lf1 rfl Try.underlying22 rfl rfl rfl) ?_ | refine o_q _ rfl rfl rfl (v_loadE1 rfl Try.underlying22 rfl rfl (by omega) rfl rfl) ?_
 refine o_q _ rfl rfl rfl (v_len rfl rfl Try.underlying22 rfl) ?_
 refine o_q _ rfl rfl rfl (v_sub rfl rfl rfl (by omega)) ?_
 refine o_q _ rfl rfl rfl (OpQ.fn (in_v _ _ _) rfl rfl SubRC.sub) ?_
 refine o_q _ rfl rfl rfl (v_assign rfl rfl) ?_
 refine o_nil ?_
 repeat (first | with_reducible refine r_then ?_ | with_reducible refine r_in_normal ?_ | with_reducible refine r_sc_normal ?_)
 refine r_ret ?_
 repeat (first | with_reducible refine r_then_ret ?_ | with_reducible refine r_in_ret ?_ | with_reducible refine r_sc_ret ?_)
 first | exact r_retv2 (Rd.tmp rfl rfl) rfl SelMC.sel SubRC.sub | exact r_retv2 (Rd.tmp rfl rfl) (congrArg Value.bool (decide_eq_true (by omega)).symm) SelMC.sel SubRC.sub | exact r_retv2 (Rd.tmp rfl rfl) (congrArg Value.bool (decide_eq_false (by omega)).symm) SelMC.sel SubRC.sub
set_option maxHeartbeats 4000000 in
theorem Count_v (a b : Int) : FnV Try.prog 24 [.agg #[i64 a, i64 b]] [] (.bool (decide (0 ≤ a ∧ a ≤ b ∧ b ≤ 200))) := by
 refine FnV.intro Try.call24 Try.func24 rfl Try.ntmps24 rfl ?_
 intro W M Rf
 refine r_seq ?_
 refine r_region ?_
 refine o_boxA rfl rfl rfl rfl rfl (fun b1 => ?_)
 refine o_q _ rfl rfl rfl (v_assign rfl rfl) ?_
 refine o_nil ?_
 repeat (first | with_reducible refine r_then ?_ | with_reducible refine r_in_normal ?_ | with_reducible refine r_sc_normal ?_)
 refine r_seq ?_
 refine r_region ?_
 first | refine o_q _ rfl rfl rfl (v_ldW rfl Try.underlying42 rfl inf42 rfl rfl) ?_ | refine o_q _ rfl rfl rfl (v_lfW rfl Try.underlying42 rfl inf42 rfl rfl) ?_ | refine o_q _ rfl rfl rfl (v_lfN rfl Try.underlying42 rfl inf42 rfl rfl rfl) ?_ | refine o_q _ rfl rfl rfl (v_ldN rfl Try.underlying42 rfl inf42 rfl rfl rfl) ?_ | refine o_q _ rfl rfl rfl (v_loadEN rfl Try.underlying42 rfl inf42 rfl (by omega) rfl rfl rfl) ?_
 refine o_q _ rfl rfl rfl (OpQ.fn (span_v _ _ _ _) rfl rfl SubRC.sub) ?_
 refine o_q _ rfl rfl rfl (v_assign rfl rfl) ?_
 refine o_nil ?_
 repeat (first | with_reducible refine r_then ?_ | with_reducible refine r_in_normal ?_ | with_reducible refine r_sc_normal ?_)
 refine r_ret ?_
 repeat (first | with_reducible refine r_then_ret ?_ | with_reducible refine r_in_ret ?_ | with_reducible refine r_sc_ret ?_)
 first | exact r_retv2 (Rd.tmp rfl rfl) rfl SelMC.sel SubRC.sub | exact r_retv2 (Rd.tmp rfl rfl) (congrArg Value.bool (decide_eq_true (by omega)).symm) SelMC.sel SubRC.sub | exact r_retv2 (Rd.tmp rfl rfl) (congrArg Value.bool (decide_eq_false (by omega)).symm) SelMC.sel SubRC.sub
theorem all_step {p : Nat → Prop} {k : Nat} (h : ∀ j, j < k → p j) (hk : p k) : ∀ j, j < k + 1 → p j := fun j hj => by
  by_cases e : j = k
  · subst e; exact hk
  · exact h j (by omega)
set_option maxHeartbeats 4000000 in
theorem Sod_v (hl1 : B.spits.length ≤ 40) (hl2 : B.days.length ≤ 40) (hl3 : B.logs.length ≤ 40) : FnV Try.prog 7 [valS B po pc so sc lo lc] [rowD po 3 encSp B.spits, rowD so 2 encS B.days, rowD lo 3 encLg B.logs] (.bool (decide (GoodS B))) := by
 refine FnV.intro Try.call7 Try.func7 rfl Try.ntmps7 rfl ?_
 intro W M Rf
 refine r_seq ?_
 refine r_region ?_
 refine o_boxA rfl rfl rfl rfl rfl (fun b1 => ?_)
 refine o_q _ rfl rfl rfl (v_assign rfl rfl) ?_
 refine o_nil ?_
 repeat (first | with_reducible refine r_then ?_ | with_reducible refine r_in_normal ?_ | with_reducible refine r_sc_normal ?_)
 refine r_seq ?_
 refine r_seq ?_
 refine r_region ?_
 first | refine o_q _ rfl rfl rfl (v_fieldAddr rfl Try.underlying37 inf34 rfl rfl rfl rfl) ?_ | refine o_q _ rfl rfl rfl (v_fieldAddrE rfl Try.underlying37 inf34 rfl rfl rfl rfl) ?_
 first | refine o_q _ rfl rfl rfl (v_ld1 rfl Try.underlying34 rfl rfl rfl) ?_ | refine o_q _ rfl rfl rfl (v_lf1 rfl Try.underlying34 rfl rfl rfl) ?_ | refine o_q _ rfl rfl rfl (v_loadE1 rfl Try.underlying34 rfl rfl (by omega) rfl rfl) ?_
 refine o_q _ rfl rfl rfl (v_len rfl rfl Try.underlying34 rfl) ?_
 first | refine o_q _ rfl rfl rfl (v_true (OpQ.fn (in_v _ _ _) rfl rfl SubRC.sub) (by omega)) ?_ | refine o_q _ rfl rfl rfl (v_false (OpQ.fn (in_v _ _ _) rfl rfl SubRC.sub) (by omega)) ?_ | refine o_test rfl rfl rfl (OpQ.fn (in_v _ _ _) rfl rfl SubRC.sub) (fun h10 => ?_) (fun h10 => ?_)
 all_goals
  refine o_q _ rfl rfl rfl (v_not rfl rfl) ?_
  refine o_q _ rfl rfl rfl (v_move rfl rfl) ?_
  first | refine o_gn rfl rfl rfl rfl ?_ | refine o_g _ rfl rfl rfl rfl (v_fieldAddr rfl Try.underlying37 inf22 rfl rfl rfl rfl) ?_ | refine o_g _ rfl rfl rfl rfl (v_fieldAddrE rfl Try.underlying37 inf22 rfl rfl rfl rfl) ?_
  first | refine o_gn rfl rfl rfl rfl ?_ | refine o_g _ rfl rfl rfl rfl (v_ld1 rfl Try.underlying22 rfl rfl rfl) ?_ | refine o_g _ rfl rfl rfl rfl (v_lf1 rfl Try.underlying22 rfl rfl rfl) ?_ | refine o_g _ rfl rfl rfl rfl (v_loadE1 rfl Try.underlying22 rfl rfl (by omega) rfl rfl) ?_
  first | refine o_gn rfl rfl rfl rfl ?_ | refine o_g _ rfl rfl rfl rfl (v_len rfl rfl Try.underlying22 rfl) ?_
  first | refine o_gn rfl rfl rfl rfl ?_ | refine o_g _ rfl rfl rfl rfl (v_true (OpQ.fn (in_v _ _ _) rfl rfl SubRC.sub) (by omega)) ?_ | refine o_g _ rfl rfl rfl rfl (v_false (OpQ.fn (in_v _ _ _) rfl rfl SubRC.sub) (by omega)) ?_ | refine o_gtest rfl rfl rfl rfl (OpQ.fn (in_v _ _ _) rfl rfl SubRC.sub) (fun h16 => ?_) (fun h16 => ?_)
  all_goals
   first | refine o_gn rfl rfl rfl rfl ?_ | refine o_g _ rfl rfl rfl rfl (v_not rfl rfl) ?_
   first | refine o_q _ rfl rfl rfl (v_pick_t rfl rfl rfl) ?_ | refine o_q _ rfl rfl rfl (v_pick_f rfl rfl rfl) ?_
   refine o_q _ rfl rfl rfl (v_move rfl rfl) ?_
   first | refine o_gn rfl rfl rfl rfl ?_ | refine o_g _ rfl rfl rfl rfl (v_fieldAddr rfl Try.underlying37 inf35 rfl rfl rfl rfl) ?_ | refine o_g _ rfl rfl rfl rfl (v_fieldAddrE rfl Try.underlying37 inf35 rfl rfl rfl rfl) ?_
   first | refine o_gn rfl rfl rfl rfl ?_ | refine o_g _ rfl rfl rfl rfl (v_ld1 rfl Try.underlying35 rfl rfl rfl) ?_ | refine o_g _ rfl rfl rfl rfl (v_lf1 rfl Try.underlying35 rfl rfl rfl) ?_ | refine o_g _ rfl rfl rfl rfl (v_loadE1 rfl Try.underlying35 rfl rfl (by omega) rfl rfl) ?_
   first | refine o_gn rfl rfl rfl rfl ?_ | refine o_g _ rfl rfl rfl rfl (v_len rfl rfl Try.underlying35 rfl) ?_
   first | refine o_gn rfl rfl rfl rfl ?_ | refine o_g _ rfl rfl rfl rfl (v_true (v_gtr rfl rfl rfl) (by omega)) ?_ | refine o_g _ rfl rfl rfl rfl (v_false (v_gtr rfl rfl rfl) (by omega)) ?_ | refine o_gtest rfl rfl rfl rfl (v_gtr rfl rfl rfl) (fun h23 => ?_) (fun h23 => ?_)
   all_goals
    first | refine o_q _ rfl rfl rfl (v_pick_t rfl rfl rfl) ?_ | refine o_q _ rfl rfl rfl (v_pick_f rfl rfl rfl) ?_
    refine o_nil ?_
    repeat (first | with_reducible refine r_then ?_ | with_reducible refine r_in_normal ?_ | with_reducible refine r_sc_normal ?_)
    first | refine r_condd rfl (fun hc24 => ?_) (fun hc24 => ?_) | refine r_cond rfl (fun hc24 => ?_) (fun hc24 => ?_)
    ·
     first
     | (exfalso; revert hc24; decide)
     | (exfalso; omega)
     |
      skip
      refine r_seq ?_
      refine r_region ?_
      refine o_q _ rfl rfl rfl (v_assign rfl rfl) ?_
      refine o_nil ?_
      repeat (first | with_reducible refine r_then ?_ | with_reducible refine r_in_normal ?_ | with_reducible refine r_sc_normal ?_)
      refine r_ret ?_
      repeat (first | with_reducible refine r_then_ret ?_ | with_reducible refine r_in_ret ?_ | with_reducible refine r_sc_ret ?_)
      first | exact r_retv2 (Rd.tmp rfl rfl) rfl SelMC.sel SubRC.sub | exact r_retv2 (Rd.tmp rfl rfl) (congrArg Value.bool (decide_eq_true (by exact ⟨by omega, by omega, by omega, fun j hj => hI0.2 j (by omega), fun j hj => hI1.2 j (by omega), fun j hj => hI2.2 j (by omega)⟩)).symm) SelMC.sel SubRC.sub | exact r_retv2 (Rd.tmp rfl rfl) (congrArg Value.bool (decide_eq_false (by intro g; obtain ⟨g1, g2, g3, g4, g5, g6⟩ := g; first | omega | (have g9 := g4 k1 (by omega); omega) | (have g9 := g5 k2 (by omega); omega) | (have g9 := g6 k3 (by omega); omega))).symm) SelMC.sel SubRC.sub
    ·
     first
     | (exfalso; revert hc24; decide)
     | (exfalso; omega)
     |
      skip
      refine r_skip ?_
      repeat (first | with_reducible refine r_then ?_ | with_reducible refine r_in_normal ?_ | with_reducible refine r_sc_normal ?_)
      refine r_seq ?_
      refine r_seq ?_
      refine r_region ?_
      refine o_q _ rfl rfl rfl (v_assign rfl rfl) ?_
      refine o_nil ?_
      repeat (first | with_reducible refine r_then ?_ | with_reducible refine r_in_normal ?_ | with_reducible refine r_sc_normal ?_)
      refine r_block ?_
      refine r_loop (ι := Nat) (fun k1 => k1 ≤ B.spits.length ∧ ∀ j, j < k1 → (1 ≤ (B.spits.getD j default).sods ∧ (B.spits.getD j default).sods ≤ 30) ∧ (1 ≤ (B.spits.getD j default).lo ∧ (B.spits.getD j default).lo ≤ (B.spits.getD j default).hi ∧ (B.spits.getD j default).hi ≤ 6) ∧ (B.spits.getD j default).hi - (B.spits.getD j default).lo ≤ 2) (fun k1 => [(1, pt b1 0), (3, i64 k1)]) (fun k1 => bx b1 37 (cellsS B po pc so sc lo lc) :: M) (fun k1 => [rowD po 3 encSp B.spits, rowD so 2 encS B.days, rowD lo 3 encLg B.logs] ++ Rf) (fun k1 => B.spits.length - k1) 0 ?_ ?_ ?_
      ·
       exact r_here (by repeat (first | exact FSub.nil | refine FSub.cons rfl ?_)) SelMC.sel SubRC.sub
      ·
       exact ⟨by omega, fun j hj => absurd hj (by omega)⟩
      ·
       rintro k1 hI0
       refine r_seq ?_
       refine r_seq ?_
       refine r_region ?_
       refine o_q _ rfl rfl rfl (v_move rfl rfl) ?_
       first | refine o_q _ rfl rfl rfl (v_fieldAddr rfl Try.underlying37 inf34 rfl rfl rfl rfl) ?_ | refine o_q _ rfl rfl rfl (v_fieldAddrE rfl Try.underlying37 inf34 rfl rfl rfl rfl) ?_
       first | refine o_q _ rfl rfl rfl (v_ld1 rfl Try.underlying34 rfl rfl rfl) ?_ | refine o_q _ rfl rfl rfl (v_lf1 rfl Try.underlying34 rfl rfl rfl) ?_ | refine o_q _ rfl rfl rfl (v_loadE1 rfl Try.underlying34 rfl rfl (by omega) rfl rfl) ?_
       refine o_q _ rfl rfl rfl (v_len rfl rfl Try.underlying34 rfl) ?_
       refine o_q _ rfl rfl rfl (v_lss rfl rfl rfl) ?_
       refine o_nil ?_
       repeat (first | with_reducible refine r_then ?_ | with_reducible refine r_in_normal ?_ | with_reducible refine r_sc_normal ?_)
       first | refine r_condd rfl (fun hc29 => ?_) (fun hc29 => ?_) | refine r_cond rfl (fun hc29 => ?_) (fun hc29 => ?_)
       ·
        first
        | (exfalso; revert hc29; decide)
        | (exfalso; omega)
        |
         skip
         refine r_skip ?_
         repeat (first | with_reducible refine r_then ?_ | with_reducible refine r_in_normal ?_ | with_reducible refine r_sc_normal ?_)
         refine r_seq ?_
         refine r_block ?_
         refine r_seq ?_
         refine r_region ?_
         first | refine o_q _ rfl rfl rfl (v_fieldAddr rfl Try.underlying37 inf34 rfl rfl rfl rfl) ?_ | refine o_q _ rfl rfl rfl (v_fieldAddrE rfl Try.underlying37 inf34 rfl rfl rfl rfl) ?_
         first | refine o_q _ rfl rfl rfl (v_ld1 rfl Try.underlying34 rfl rfl rfl) ?_ | refine o_q _ rfl rfl rfl (v_lf1 rfl Try.underlying34 rfl rfl rfl) ?_ | refine o_q _ rfl rfl rfl (v_loadE1 rfl Try.underlying34 rfl rfl (by omega) rfl rfl) ?_
         refine o_q _ rfl rfl rfl (v_move rfl rfl) ?_
         first | refine o_q _ rfl rfl rfl (v_indexAddrSn rfl Try.underlying34 inf67 rfl rfl rfl (by omega) rfl) ?_ | refine o_q _ rfl rfl rfl (v_indexAddrS rfl Try.underlying34 inf67 rfl rfl rfl (by omega) (by omega) rfl) ?_
         first | refine o_q _ rfl rfl rfl (v_ldW rfl Try.underlying67 rfl inf67 rfl rfl) ?_ | refine o_q _ rfl rfl rfl (v_lfW rfl Try.underlying67 rfl inf67 rfl rfl) ?_ | refine o_q _ rfl rfl rfl (v_lfN rfl Try.underlying67 rfl inf67 rfl rfl rfl) ?_ | refine o_q _ rfl rfl rfl (v_ldN rfl Try.underlying67 rfl inf67 rfl rfl rfl) ?_ | refine o_q _ rfl rfl rfl (v_loadEN rfl Try.underlying67 rfl inf67 rfl (by omega) rfl rfl rfl) ?_
         refine o_alloc rfl inf67 rfl rfl rfl rfl rfl (fun b4 => ?_)
         refine o_st rfl inf67 rfl rfl rfl rfl rfl rfl rfl rfl ?_
         refine o_nil ?_
         repeat (first | with_reducible refine r_then ?_ | with_reducible refine r_in_normal ?_ | with_reducible refine r_sc_normal ?_)
         refine r_seq ?_
         refine Imp.box_to b4 [i64 (B.spits.getD k1 default).sods, i64 (B.spits.getD k1 default).lo, i64 (B.spits.getD k1 default).hi] rfl ?_
         refine r_region ?_
         first | refine o_q _ rfl rfl rfl (v_fieldAddr rfl Try.underlying67 inf3 rfl rfl rfl rfl) ?_ | refine o_q _ rfl rfl rfl (v_fieldAddrE rfl Try.underlying67 inf3 rfl rfl rfl rfl) ?_
         first | refine o_q _ rfl rfl rfl (v_ld1 rfl Try.underlying3 rfl rfl rfl) ?_ | refine o_q _ rfl rfl rfl (v_lf1 rfl Try.underlying3 rfl rfl rfl) ?_ | refine o_q _ rfl rfl rfl (v_loadE1 rfl Try.underlying3 rfl rfl (by omega) rfl rfl) ?_
         first | refine o_q _ rfl rfl rfl (v_true (OpQ.fn (in_v _ _ _) rfl rfl SubRC.sub) (by omega)) ?_ | refine o_q _ rfl rfl rfl (v_false (OpQ.fn (in_v _ _ _) rfl rfl SubRC.sub) (by omega)) ?_ | refine o_test rfl rfl rfl (OpQ.fn (in_v _ _ _) rfl rfl SubRC.sub) (fun h39 => ?_) (fun h39 => ?_)
         all_goals
          refine o_q _ rfl rfl rfl (v_not rfl rfl) ?_
          refine o_q _ rfl rfl rfl (v_move rfl rfl) ?_
          first | refine o_gn rfl rfl rfl rfl ?_ | refine o_g _ rfl rfl rfl rfl (v_fieldAddr rfl Try.underlying67 inf42 rfl rfl rfl rfl) ?_ | refine o_g _ rfl rfl rfl rfl (v_fieldAddrE rfl Try.underlying67 inf42 rfl rfl rfl rfl) ?_
          first | refine o_gn rfl rfl rfl rfl ?_ | refine o_g _ rfl rfl rfl rfl (v_ldW rfl Try.underlying42 rfl inf42 rfl rfl) ?_ | refine o_g _ rfl rfl rfl rfl (v_lfW rfl Try.underlying42 rfl inf42 rfl rfl) ?_ | refine o_g _ rfl rfl rfl rfl (v_lfN rfl Try.underlying42 rfl inf42 rfl rfl rfl) ?_ | refine o_g _ rfl rfl rfl rfl (v_ldN rfl Try.underlying42 rfl inf42 rfl rfl rfl) ?_ | refine o_g _ rfl rfl rfl rfl (v_loadEN rfl Try.underlying42 rfl inf42 rfl (by omega) rfl rfl rfl) ?_
          first | refine o_gn rfl rfl rfl rfl ?_ | refine o_g _ rfl rfl rfl rfl (v_true (OpQ.fn (span_v _ _ _ _) rfl rfl SubRC.sub) (by omega)) ?_ | refine o_g _ rfl rfl rfl rfl (v_false (OpQ.fn (span_v _ _ _ _) rfl rfl SubRC.sub) (by omega)) ?_ | refine o_gtest rfl rfl rfl rfl (OpQ.fn (span_v _ _ _ _) rfl rfl SubRC.sub) (fun h44 => ?_) (fun h44 => ?_)
          all_goals
           first | refine o_gn rfl rfl rfl rfl ?_ | refine o_g _ rfl rfl rfl rfl (v_not rfl rfl) ?_
           first | refine o_q _ rfl rfl rfl (v_pick_t rfl rfl rfl) ?_ | refine o_q _ rfl rfl rfl (v_pick_f rfl rfl rfl) ?_
           refine o_q _ rfl rfl rfl (v_move rfl rfl) ?_
           first | refine o_gn rfl rfl rfl rfl ?_ | refine o_g _ rfl rfl rfl rfl (v_fieldAddr rfl Try.underlying67 inf42 rfl rfl rfl rfl) ?_ | refine o_g _ rfl rfl rfl rfl (v_fieldAddrE rfl Try.underlying67 inf42 rfl rfl rfl rfl) ?_
           first | refine o_gn rfl rfl rfl rfl ?_ | refine o_g _ rfl rfl rfl rfl (v_fieldAddr rfl Try.underlying42 inf3 rfl rfl rfl rfl) ?_ | refine o_g _ rfl rfl rfl rfl (v_fieldAddrE rfl Try.underlying42 inf3 rfl rfl rfl rfl) ?_
           first | refine o_gn rfl rfl rfl rfl ?_ | refine o_g _ rfl rfl rfl rfl (v_ld1 rfl Try.underlying3 rfl rfl rfl) ?_ | refine o_g _ rfl rfl rfl rfl (v_lf1 rfl Try.underlying3 rfl rfl rfl) ?_ | refine o_g _ rfl rfl rfl rfl (v_loadE1 rfl Try.underlying3 rfl rfl (by omega) rfl rfl) ?_
           first | refine o_gn rfl rfl rfl rfl ?_ | refine o_g _ rfl rfl rfl rfl (v_fieldAddr rfl Try.underlying67 inf42 rfl rfl rfl rfl) ?_ | refine o_g _ rfl rfl rfl rfl (v_fieldAddrE rfl Try.underlying67 inf42 rfl rfl rfl rfl) ?_
           first | refine o_gn rfl rfl rfl rfl ?_ | refine o_g _ rfl rfl rfl rfl (v_fieldAddr rfl Try.underlying42 inf3 rfl rfl rfl rfl) ?_ | refine o_g _ rfl rfl rfl rfl (v_fieldAddrE rfl Try.underlying42 inf3 rfl rfl rfl rfl) ?_
           first | refine o_gn rfl rfl rfl rfl ?_ | refine o_g _ rfl rfl rfl rfl (v_ld1 rfl Try.underlying3 rfl rfl rfl) ?_ | refine o_g _ rfl rfl rfl rfl (v_lf1 rfl Try.underlying3 rfl rfl rfl) ?_ | refine o_g _ rfl rfl rfl rfl (v_loadE1 rfl Try.underlying3 rfl rfl (by omega) rfl rfl) ?_
           first | refine o_gn rfl rfl rfl rfl ?_ | refine o_g _ rfl rfl rfl rfl (v_sub rfl rfl rfl (by omega)) ?_
           first | refine o_gn rfl rfl rfl rfl ?_ | refine o_g _ rfl rfl rfl rfl (v_true (v_gtr rfl rfl rfl) (by omega)) ?_ | refine o_g _ rfl rfl rfl rfl (v_false (v_gtr rfl rfl rfl) (by omega)) ?_ | refine o_gtest rfl rfl rfl rfl (v_gtr rfl rfl rfl) (fun h55 => ?_) (fun h55 => ?_)
           all_goals
            first | refine o_q _ rfl rfl rfl (v_pick_t rfl rfl rfl) ?_ | refine o_q _ rfl rfl rfl (v_pick_f rfl rfl rfl) ?_
            refine o_nil ?_
            repeat (first | with_reducible refine r_then ?_ | with_reducible refine r_in_normal ?_ | with_reducible refine r_sc_normal ?_)
            first | refine r_condd rfl (fun hc56 => ?_) (fun hc56 => ?_) | refine r_cond rfl (fun hc56 => ?_) (fun hc56 => ?_)
            ·
             first
             | (exfalso; revert hc56; decide)
             | (exfalso; omega)
             |
              skip
              refine r_seq ?_
              refine r_region ?_
              refine o_q _ rfl rfl rfl (v_assign rfl rfl) ?_
              refine o_nil ?_
              repeat (first | with_reducible refine r_then ?_ | with_reducible refine r_in_normal ?_ | with_reducible refine r_sc_normal ?_)
              refine r_ret ?_
              repeat (first | with_reducible refine r_then_ret ?_ | with_reducible refine r_in_ret ?_ | with_reducible refine r_sc_ret ?_)
              first | exact r_retv2 (Rd.tmp rfl rfl) rfl SelMC.sel SubRC.sub | exact r_retv2 (Rd.tmp rfl rfl) (congrArg Value.bool (decide_eq_true (by exact ⟨by omega, by omega, by omega, fun j hj => hI0.2 j (by omega), fun j hj => hI1.2 j (by omega), fun j hj => hI2.2 j (by omega)⟩)).symm) SelMC.sel SubRC.sub | exact r_retv2 (Rd.tmp rfl rfl) (congrArg Value.bool (decide_eq_false (by intro g; obtain ⟨g1, g2, g3, g4, g5, g6⟩ := g; first | omega | (have g9 := g4 k1 (by omega); omega) | (have g9 := g5 k2 (by omega); omega) | (have g9 := g6 k3 (by omega); omega))).symm) SelMC.sel SubRC.sub
            ·
             first
             | (exfalso; revert hc56; decide)
             | (exfalso; omega)
             |
              skip
              refine r_skip ?_
              repeat (first | with_reducible refine r_then ?_ | with_reducible refine r_in_normal ?_ | with_reducible refine r_sc_normal ?_)
              refine r_region ?_
              refine o_q _ rfl rfl rfl (v_move rfl rfl) ?_
              refine o_q _ rfl rfl rfl (v_add rfl rfl rfl (by omega)) ?_
              refine o_q _ rfl rfl rfl (v_assign rfl rfl) ?_
              refine o_nil ?_
              repeat (first | with_reducible refine r_then ?_ | with_reducible refine r_in_normal ?_ | with_reducible refine r_sc_normal ?_)
              refine r_next (k1 + 1) ?_ ?_ ?_
              ·
               exact r_here (by repeat (first | exact FSub.nil | refine FSub.cons rfl ?_)) SelMC.sel SubRC.sub
              ·
               exact ⟨by omega, all_step hI0.2 ⟨by omega, by omega, by omega⟩⟩
              ·
               omega
       ·
        first
        | (exfalso; revert hc29; decide)
        | (exfalso; omega)
        |
         skip
         refine r_exit ?_
         repeat (first | with_reducible refine r_then_exit ?_ | with_reducible refine r_sc_exit ?_ | with_reducible refine r_in_here ?_ | (with_reducible refine r_in_past (by decide) ?_) | with_reducible refine r_then ?_ | with_reducible refine r_in_normal ?_ | with_reducible refine r_sc_normal ?_)
         refine r_seq ?_
         refine r_seq ?_
         refine r_region ?_
         refine o_q _ rfl rfl rfl (v_assign rfl rfl) ?_
         refine o_nil ?_
         repeat (first | with_reducible refine r_then ?_ | with_reducible refine r_in_normal ?_ | with_reducible refine r_sc_normal ?_)
         refine r_block ?_
         refine r_loop (ι := Nat) (fun k2 => k2 ≤ B.days.length ∧ ∀ j, j < k2 → 0 ≤ (B.days.getD j default).lo ∧ (B.days.getD j default).lo ≤ (B.days.getD j default).hi ∧ (B.days.getD j default).hi ≤ 100) (fun k2 => [(1, pt b1 0), (5, i64 k2)]) (fun k2 => bx b1 37 (cellsS B po pc so sc lo lc) :: M) (fun k2 => [rowD po 3 encSp B.spits, rowD so 2 encS B.days, rowD lo 3 encLg B.logs] ++ Rf) (fun k2 => B.days.length - k2) 0 ?_ ?_ ?_
         ·
          exact r_here (by repeat (first | exact FSub.nil | refine FSub.cons rfl ?_)) SelMC.sel SubRC.sub
         ·
          exact ⟨by omega, fun j hj => absurd hj (by omega)⟩
         ·
          rintro k2 hI1
          refine r_seq ?_
          refine r_seq ?_
          refine r_region ?_
          refine o_q _ rfl rfl rfl (v_move rfl rfl) ?_
          first | refine o_q _ rfl rfl rfl (v_fieldAddr rfl Try.underlying37 inf22 rfl rfl rfl rfl) ?_ | refine o_q _ rfl rfl rfl (v_fieldAddrE rfl Try.underlying37 inf22 rfl rfl rfl rfl) ?_
          first | refine o_q _ rfl rfl rfl (v_ld1 rfl Try.underlying22 rfl rfl rfl) ?_ | refine o_q _ rfl rfl rfl (v_lf1 rfl Try.underlying22 rfl rfl rfl) ?_ | refine o_q _ rfl rfl rfl (v_loadE1 rfl Try.underlying22 rfl rfl (by omega) rfl rfl) ?_
          refine o_q _ rfl rfl rfl (v_len rfl rfl Try.underlying22 rfl) ?_
          refine o_q _ rfl rfl rfl (v_lss rfl rfl rfl) ?_
          refine o_nil ?_
          repeat (first | with_reducible refine r_then ?_ | with_reducible refine r_in_normal ?_ | with_reducible refine r_sc_normal ?_)
          first | refine r_condd rfl (fun hc61 => ?_) (fun hc61 => ?_) | refine r_cond rfl (fun hc61 => ?_) (fun hc61 => ?_)
          ·
           first
           | (exfalso; revert hc61; decide)
           | (exfalso; omega)
           |
            skip
            refine r_skip ?_
            repeat (first | with_reducible refine r_then ?_ | with_reducible refine r_in_normal ?_ | with_reducible refine r_sc_normal ?_)
            refine r_seq ?_
            refine r_block ?_
            refine r_seq ?_
            refine r_region ?_
            first | refine o_q _ rfl rfl rfl (v_fieldAddr rfl Try.underlying37 inf22 rfl rfl rfl rfl) ?_ | refine o_q _ rfl rfl rfl (v_fieldAddrE rfl Try.underlying37 inf22 rfl rfl rfl rfl) ?_
            first | refine o_q _ rfl rfl rfl (v_ld1 rfl Try.underlying22 rfl rfl rfl) ?_ | refine o_q _ rfl rfl rfl (v_lf1 rfl Try.underlying22 rfl rfl rfl) ?_ | refine o_q _ rfl rfl rfl (v_loadE1 rfl Try.underlying22 rfl rfl (by omega) rfl rfl) ?_
            refine o_q _ rfl rfl rfl (v_move rfl rfl) ?_
            first | refine o_q _ rfl rfl rfl (v_indexAddrSn rfl Try.underlying22 inf42 rfl rfl rfl (by omega) rfl) ?_ | refine o_q _ rfl rfl rfl (v_indexAddrS rfl Try.underlying22 inf42 rfl rfl rfl (by omega) (by omega) rfl) ?_
            first | refine o_q _ rfl rfl rfl (v_ldW rfl Try.underlying42 rfl inf42 rfl rfl) ?_ | refine o_q _ rfl rfl rfl (v_lfW rfl Try.underlying42 rfl inf42 rfl rfl) ?_ | refine o_q _ rfl rfl rfl (v_lfN rfl Try.underlying42 rfl inf42 rfl rfl rfl) ?_ | refine o_q _ rfl rfl rfl (v_ldN rfl Try.underlying42 rfl inf42 rfl rfl rfl) ?_ | refine o_q _ rfl rfl rfl (v_loadEN rfl Try.underlying42 rfl inf42 rfl (by omega) rfl rfl rfl) ?_
            first | refine o_q _ rfl rfl rfl (v_true (OpQ.fn (span_v _ _ _ _) rfl rfl SubRC.sub) (by omega)) ?_ | refine o_q _ rfl rfl rfl (v_false (OpQ.fn (span_v _ _ _ _) rfl rfl SubRC.sub) (by omega)) ?_ | refine o_test rfl rfl rfl (OpQ.fn (span_v _ _ _ _) rfl rfl SubRC.sub) (fun h69 => ?_) (fun h69 => ?_)
            all_goals
             refine o_q _ rfl rfl rfl (v_not rfl rfl) ?_
             refine o_nil ?_
             repeat (first | with_reducible refine r_then ?_ | with_reducible refine r_in_normal ?_ | with_reducible refine r_sc_normal ?_)
             first | refine r_condd rfl (fun hc70 => ?_) (fun hc70 => ?_) | refine r_cond rfl (fun hc70 => ?_) (fun hc70 => ?_)
             ·
              first
              | (exfalso; revert hc70; decide)
              | (exfalso; omega)
              |
               skip
               refine r_seq ?_
               refine r_region ?_
               refine o_q _ rfl rfl rfl (v_assign rfl rfl) ?_
               refine o_nil ?_
               repeat (first | with_reducible refine r_then ?_ | with_reducible refine r_in_normal ?_ | with_reducible refine r_sc_normal ?_)
               refine r_ret ?_
               repeat (first | with_reducible refine r_then_ret ?_ | with_reducible refine r_in_ret ?_ | with_reducible refine r_sc_ret ?_)
               first | exact r_retv2 (Rd.tmp rfl rfl) rfl SelMC.sel SubRC.sub | exact r_retv2 (Rd.tmp rfl rfl) (congrArg Value.bool (decide_eq_true (by exact ⟨by omega, by omega, by omega, fun j hj => hI0.2 j (by omega), fun j hj => hI1.2 j (by omega), fun j hj => hI2.2 j (by omega)⟩)).symm) SelMC.sel SubRC.sub | exact r_retv2 (Rd.tmp rfl rfl) (congrArg Value.bool (decide_eq_false (by intro g; obtain ⟨g1, g2, g3, g4, g5, g6⟩ := g; first | omega | (have g9 := g4 k1 (by omega); omega) | (have g9 := g5 k2 (by omega); omega) | (have g9 := g6 k3 (by omega); omega))).symm) SelMC.sel SubRC.sub
             ·
              first
              | (exfalso; revert hc70; decide)
              | (exfalso; omega)
              |
               skip
               refine r_skip ?_
               repeat (first | with_reducible refine r_then ?_ | with_reducible refine r_in_normal ?_ | with_reducible refine r_sc_normal ?_)
               refine r_region ?_
               refine o_q _ rfl rfl rfl (v_move rfl rfl) ?_
               refine o_q _ rfl rfl rfl (v_add rfl rfl rfl (by omega)) ?_
               refine o_q _ rfl rfl rfl (v_assign rfl rfl) ?_
               refine o_nil ?_
               repeat (first | with_reducible refine r_then ?_ | with_reducible refine r_in_normal ?_ | with_reducible refine r_sc_normal ?_)
               refine r_next (k2 + 1) ?_ ?_ ?_
               ·
                exact r_here (by repeat (first | exact FSub.nil | refine FSub.cons rfl ?_)) SelMC.sel SubRC.sub
               ·
                exact ⟨by omega, all_step hI1.2 (by omega)⟩
               ·
                omega
          ·
           first
           | (exfalso; revert hc61; decide)
           | (exfalso; omega)
           |
            skip
            refine r_exit ?_
            repeat (first | with_reducible refine r_then_exit ?_ | with_reducible refine r_sc_exit ?_ | with_reducible refine r_in_here ?_ | (with_reducible refine r_in_past (by decide) ?_) | with_reducible refine r_then ?_ | with_reducible refine r_in_normal ?_ | with_reducible refine r_sc_normal ?_)
            refine r_seq ?_
            refine r_seq ?_
            refine r_region ?_
            refine o_q _ rfl rfl rfl (v_assign rfl rfl) ?_
            refine o_nil ?_
            repeat (first | with_reducible refine r_then ?_ | with_reducible refine r_in_normal ?_ | with_reducible refine r_sc_normal ?_)
            refine r_block ?_
            refine r_loop (ι := Nat) (fun k3 => k3 ≤ B.logs.length ∧ ∀ j, j < k3 → (0 ≤ (B.logs.getD j default).day ∧ (B.logs.getD j default).day ≤ (B.days.length : Int) - 1) ∧ (0 ≤ (B.logs.getD j default).lo ∧ (B.logs.getD j default).lo ≤ (B.logs.getD j default).hi ∧ (B.logs.getD j default).hi ≤ 200)) (fun k3 => [(1, pt b1 0), (6, i64 k3)]) (fun k3 => bx b1 37 (cellsS B po pc so sc lo lc) :: M) (fun k3 => [rowD po 3 encSp B.spits, rowD so 2 encS B.days, rowD lo 3 encLg B.logs] ++ Rf) (fun k3 => B.logs.length - k3) 0 ?_ ?_ ?_
            ·
             exact r_here (by repeat (first | exact FSub.nil | refine FSub.cons rfl ?_)) SelMC.sel SubRC.sub
            ·
             exact ⟨by omega, fun j hj => absurd hj (by omega)⟩
            ·
             rintro k3 hI2
             refine r_seq ?_
             refine r_seq ?_
             refine r_region ?_
             refine o_q _ rfl rfl rfl (v_move rfl rfl) ?_
             first | refine o_q _ rfl rfl rfl (v_fieldAddr rfl Try.underlying37 inf35 rfl rfl rfl rfl) ?_ | refine o_q _ rfl rfl rfl (v_fieldAddrE rfl Try.underlying37 inf35 rfl rfl rfl rfl) ?_
             first | refine o_q _ rfl rfl rfl (v_ld1 rfl Try.underlying35 rfl rfl rfl) ?_ | refine o_q _ rfl rfl rfl (v_lf1 rfl Try.underlying35 rfl rfl rfl) ?_ | refine o_q _ rfl rfl rfl (v_loadE1 rfl Try.underlying35 rfl rfl (by omega) rfl rfl) ?_
             refine o_q _ rfl rfl rfl (v_len rfl rfl Try.underlying35 rfl) ?_
             refine o_q _ rfl rfl rfl (v_lss rfl rfl rfl) ?_
             refine o_nil ?_
             repeat (first | with_reducible refine r_then ?_ | with_reducible refine r_in_normal ?_ | with_reducible refine r_sc_normal ?_)
             first | refine r_condd rfl (fun hc75 => ?_) (fun hc75 => ?_) | refine r_cond rfl (fun hc75 => ?_) (fun hc75 => ?_)
             ·
              first
              | (exfalso; revert hc75; decide)
              | (exfalso; omega)
              |
               skip
               refine r_skip ?_
               repeat (first | with_reducible refine r_then ?_ | with_reducible refine r_in_normal ?_ | with_reducible refine r_sc_normal ?_)
               refine r_seq ?_
               refine r_block ?_
               refine r_seq ?_
               refine r_region_q mixed (by kernel_rfl) ?_
               first | refine q_q _ rfl rfl rfl (v_ldW rfl Try.underlying37 rfl inf37 rfl rfl) ?_ | refine q_q _ rfl rfl rfl (v_lfW rfl Try.underlying37 rfl inf37 rfl rfl) ?_ | refine q_q _ rfl rfl rfl (v_lfN rfl Try.underlying37 rfl inf37 rfl rfl rfl) ?_ | refine q_q _ rfl rfl rfl (v_ldN rfl Try.underlying37 rfl inf37 rfl rfl rfl) ?_ | refine q_q _ rfl rfl rfl (v_loadEN rfl Try.underlying37 rfl inf37 rfl (by omega) rfl rfl rfl) ?_
               first | refine q_q _ rfl rfl rfl (v_fieldAddr rfl Try.underlying37 inf35 rfl rfl rfl rfl) ?_ | refine q_q _ rfl rfl rfl (v_fieldAddrE rfl Try.underlying37 inf35 rfl rfl rfl rfl) ?_
               first | refine q_q _ rfl rfl rfl (v_ld1 rfl Try.underlying35 rfl rfl rfl) ?_ | refine q_q _ rfl rfl rfl (v_lf1 rfl Try.underlying35 rfl rfl rfl) ?_ | refine q_q _ rfl rfl rfl (v_loadE1 rfl Try.underlying35 rfl rfl (by omega) rfl rfl) ?_
               refine q_q _ rfl rfl rfl (v_move rfl rfl) ?_
               first | refine q_q _ rfl rfl rfl (v_indexAddrSn rfl Try.underlying35 inf70 rfl rfl rfl (by omega) rfl) ?_ | refine q_q _ rfl rfl rfl (v_indexAddrS rfl Try.underlying35 inf70 rfl rfl rfl (by omega) (by omega) rfl) ?_
               first | refine q_q _ rfl rfl rfl (v_fieldAddr rfl Try.underlying70 inf3 rfl rfl rfl rfl) ?_ | refine q_q _ rfl rfl rfl (v_fieldAddrE rfl Try.underlying70 inf3 rfl rfl rfl rfl) ?_
               first | refine q_q _ rfl rfl rfl (v_ld1 rfl Try.underlying3 rfl rfl rfl) ?_ | refine q_q _ rfl rfl rfl (v_lf1 rfl Try.underlying3 rfl rfl rfl) ?_ | refine q_q _ rfl rfl rfl (v_loadE1 rfl Try.underlying3 rfl rfl (by omega) rfl rfl) ?_
               first | refine q_q _ rfl rfl rfl (v_true (OpQ.fn (Day_v B po so lo pc sc lc _ hl1 hl2 hl3) rfl rfl SubRC.sub) (by omega)) ?_ | refine q_q _ rfl rfl rfl (v_false (OpQ.fn (Day_v B po so lo pc sc lc _ hl1 hl2 hl3) rfl rfl SubRC.sub) (by omega)) ?_ | refine q_test rfl rfl rfl (OpQ.fn (Day_v B po so lo pc sc lc _ hl1 hl2 hl3) rfl rfl SubRC.sub) (fun h85 => ?_) (fun h85 => ?_)
               all_goals
                refine q_q _ rfl rfl rfl (v_not rfl rfl) ?_
                refine q_q _ rfl rfl rfl (v_move rfl rfl) ?_
                first | refine q_gn rfl rfl rfl rfl ?_ | refine q_g _ rfl rfl rfl rfl (v_fieldAddr rfl Try.underlying37 inf35 rfl rfl rfl rfl) ?_ | refine q_g _ rfl rfl rfl rfl (v_fieldAddrE rfl Try.underlying37 inf35 rfl rfl rfl rfl) ?_
                first | refine q_gn rfl rfl rfl rfl ?_ | refine q_g _ rfl rfl rfl rfl (v_ld1 rfl Try.underlying35 rfl rfl rfl) ?_ | refine q_g _ rfl rfl rfl rfl (v_lf1 rfl Try.underlying35 rfl rfl rfl) ?_ | refine q_g _ rfl rfl rfl rfl (v_loadE1 rfl Try.underlying35 rfl rfl (by omega) rfl rfl) ?_
                first | refine q_gn rfl rfl rfl rfl ?_ | refine q_g _ rfl rfl rfl rfl (v_move rfl rfl) ?_
                first | refine q_gn rfl rfl rfl rfl ?_ | refine q_g _ rfl rfl rfl rfl (v_indexAddrSn rfl Try.underlying35 inf70 rfl rfl rfl (by omega) rfl) ?_ | refine q_g _ rfl rfl rfl rfl (v_indexAddrS rfl Try.underlying35 inf70 rfl rfl rfl (by omega) (by omega) rfl) ?_
                first | refine q_gn rfl rfl rfl rfl ?_ | refine q_g _ rfl rfl rfl rfl (v_fieldAddr rfl Try.underlying70 inf42 rfl rfl rfl rfl) ?_ | refine q_g _ rfl rfl rfl rfl (v_fieldAddrE rfl Try.underlying70 inf42 rfl rfl rfl rfl) ?_
                first | refine q_gn rfl rfl rfl rfl ?_ | refine q_g _ rfl rfl rfl rfl (v_ldW rfl Try.underlying42 rfl inf42 rfl rfl) ?_ | refine q_g _ rfl rfl rfl rfl (v_lfW rfl Try.underlying42 rfl inf42 rfl rfl) ?_ | refine q_g _ rfl rfl rfl rfl (v_lfN rfl Try.underlying42 rfl inf42 rfl rfl rfl) ?_ | refine q_g _ rfl rfl rfl rfl (v_ldN rfl Try.underlying42 rfl inf42 rfl rfl rfl) ?_ | refine q_g _ rfl rfl rfl rfl (v_loadEN rfl Try.underlying42 rfl inf42 rfl (by omega) rfl rfl rfl) ?_
                first | refine q_gn rfl rfl rfl rfl ?_ | refine q_g _ rfl rfl rfl rfl (v_true (OpQ.fn (Count_v _ _) rfl rfl SubRC.sub) (by omega)) ?_ | refine q_g _ rfl rfl rfl rfl (v_false (OpQ.fn (Count_v _ _) rfl rfl SubRC.sub) (by omega)) ?_ | refine q_gtest rfl rfl rfl rfl (OpQ.fn (Count_v _ _) rfl rfl SubRC.sub) (fun h94 => ?_) (fun h94 => ?_)
                all_goals
                 first | refine q_gn rfl rfl rfl rfl ?_ | refine q_g _ rfl rfl rfl rfl (v_not rfl rfl) ?_
                 first | refine q_q _ rfl rfl rfl (v_pick_t rfl rfl rfl) ?_ | refine q_q _ rfl rfl rfl (v_pick_f rfl rfl rfl) ?_
                 refine q_nil ?_
                 repeat (first | with_reducible refine r_then ?_ | with_reducible refine r_in_normal ?_ | with_reducible refine r_sc_normal ?_)
                 first | refine r_condd rfl (fun hc96 => ?_) (fun hc96 => ?_) | refine r_cond rfl (fun hc96 => ?_) (fun hc96 => ?_)
                 ·
                  first
                  | (exfalso; revert hc96; decide)
                  | (exfalso; omega)
                  |
                   skip
                   refine r_seq ?_
                   refine r_region ?_
                   refine o_q _ rfl rfl rfl (v_assign rfl rfl) ?_
                   refine o_nil ?_
                   repeat (first | with_reducible refine r_then ?_ | with_reducible refine r_in_normal ?_ | with_reducible refine r_sc_normal ?_)
                   refine r_ret ?_
                   repeat (first | with_reducible refine r_then_ret ?_ | with_reducible refine r_in_ret ?_ | with_reducible refine r_sc_ret ?_)
                   first | exact r_retv2 (Rd.tmp rfl rfl) rfl SelMC.sel SubRC.sub | exact r_retv2 (Rd.tmp rfl rfl) (congrArg Value.bool (decide_eq_true (by exact ⟨by omega, by omega, by omega, fun j hj => hI0.2 j (by omega), fun j hj => hI1.2 j (by omega), fun j hj => hI2.2 j (by omega)⟩)).symm) SelMC.sel SubRC.sub | exact r_retv2 (Rd.tmp rfl rfl) (congrArg Value.bool (decide_eq_false (by intro g; obtain ⟨g1, g2, g3, g4, g5, g6⟩ := g; first | omega | (have g9 := g4 k1 (by omega); omega) | (have g9 := g5 k2 (by omega); omega) | (have g9 := g6 k3 (by omega); omega))).symm) SelMC.sel SubRC.sub
                 ·
                  first
                  | (exfalso; revert hc96; decide)
                  | (exfalso; omega)
                  |
                   skip
                   refine r_skip ?_
                   repeat (first | with_reducible refine r_then ?_ | with_reducible refine r_in_normal ?_ | with_reducible refine r_sc_normal ?_)
                   refine r_region ?_
                   refine o_q _ rfl rfl rfl (v_move rfl rfl) ?_
                   refine o_q _ rfl rfl rfl (v_add rfl rfl rfl (by omega)) ?_
                   refine o_q _ rfl rfl rfl (v_assign rfl rfl) ?_
                   refine o_nil ?_
                   repeat (first | with_reducible refine r_then ?_ | with_reducible refine r_in_normal ?_ | with_reducible refine r_sc_normal ?_)
                   refine r_next (k3 + 1) ?_ ?_ ?_
                   ·
                    exact r_here (by repeat (first | exact FSub.nil | refine FSub.cons rfl ?_)) SelMC.sel SubRC.sub
                   ·
                    exact ⟨by omega, all_step hI2.2 ⟨by omega, by omega⟩⟩
                   ·
                    omega
             ·
              first
              | (exfalso; revert hc75; decide)
              | (exfalso; omega)
              |
               skip
               refine r_exit ?_
               repeat (first | with_reducible refine r_then_exit ?_ | with_reducible refine r_sc_exit ?_ | with_reducible refine r_in_here ?_ | (with_reducible refine r_in_past (by decide) ?_) | with_reducible refine r_then ?_ | with_reducible refine r_in_normal ?_ | with_reducible refine r_sc_normal ?_)
               refine r_seq ?_
               refine r_region ?_
               refine o_q _ rfl rfl rfl (v_assign rfl rfl) ?_
               refine o_nil ?_
               repeat (first | with_reducible refine r_then ?_ | with_reducible refine r_in_normal ?_ | with_reducible refine r_sc_normal ?_)
               refine r_ret ?_
               repeat (first | with_reducible refine r_then_ret ?_ | with_reducible refine r_in_ret ?_ | with_reducible refine r_sc_ret ?_)
               first | exact r_retv2 (Rd.tmp rfl rfl) rfl SelMC.sel SubRC.sub | exact r_retv2 (Rd.tmp rfl rfl) (congrArg Value.bool (decide_eq_true (by exact ⟨by omega, by omega, by omega, fun j hj => hI0.2 j (by omega), fun j hj => hI1.2 j (by omega), fun j hj => hI2.2 j (by omega)⟩)).symm) SelMC.sel SubRC.sub | exact r_retv2 (Rd.tmp rfl rfl) (congrArg Value.bool (decide_eq_false (by intro g; obtain ⟨g1, g2, g3, g4, g5, g6⟩ := g; first | omega | (have g9 := g4 k1 (by omega); omega) | (have g9 := g5 k2 (by omega); omega) | (have g9 := g6 k3 (by omega); omega))).symm) SelMC.sel SubRC.sub
set_option maxHeartbeats 4000000 in
theorem Sods_v (cs : List Int) (ca : Option Addr) (cc : Nat) (n : Int) (hg : GoodS B) (hcl : cs.length = B.spits.length) (hcb : ∀ k, k < cs.length → 1 ≤ cs.getD k default ∧ cs.getD k default ≤ 6) (hn : 0 ≤ n ∧ n ≤ 1000000) : FnV Try.prog 25 [valS B po pc so sc lo lc, .slice ca cs.length cc, i64 n] [rowD po 3 encSp B.spits, rowD so 2 encS B.days, rowD lo 3 encLg B.logs, rowD ca 1 encI cs] (i64 (sodsOf B (ofL cs) n)) := by
 refine FnV.intro Try.call25 Try.func25 rfl Try.ntmps25 rfl ?_
 intro W M Rf
 refine r_seq ?_
 refine r_region ?_
 refine o_boxA rfl rfl rfl rfl rfl (fun b3 => ?_)
 refine o_q _ rfl rfl rfl (v_assign rfl rfl) ?_
 refine o_nil ?_
 repeat (first | with_reducible refine r_then ?_ | with_reducible refine r_in_normal ?_ | with_reducible refine r_sc_normal ?_)
 refine r_seq ?_
 refine r_region ?_
 refine o_q _ rfl rfl rfl (v_assign rfl rfl) ?_
 refine o_nil ?_
 repeat (first | with_reducible refine r_then ?_ | with_reducible refine r_in_normal ?_ | with_reducible refine r_sc_normal ?_)
 refine r_seq ?_
 refine r_seq ?_
 refine r_region ?_
 refine o_q _ rfl rfl rfl (v_assign rfl rfl) ?_
 refine o_nil ?_
 repeat (first | with_reducible refine r_then ?_ | with_reducible refine r_in_normal ?_ | with_reducible refine r_sc_normal ?_)
 refine r_block ?_
 refine r_loop (ι := Nat × Int × Int) (fun gh => gh.1 ≤ B.spits.length ∧ 0 ≤ gh.2.1 ∧ gh.2.1 ≤ 30 * gh.1 ∧ 0 ≤ gh.2.2 ∧ gh.2.2 ≤ n ∧ sodsOf B (ofL cs) n = gh.2.1 + cutK B (ofL cs) gh.1 gh.2.2) (fun gh => [(1, .slice ca cs.length cc), (2, i64 gh.2.2), (3, pt b3 0), (7, i64 gh.2.1), (8, i64 gh.1)]) (fun gh => bx b3 37 (cellsS B po pc so sc lo lc) :: M) (fun gh => [rowD po 3 encSp B.spits, rowD so 2 encS B.days, rowD lo 3 encLg B.logs, rowD ca 1 encI cs] ++ Rf) (fun gh => B.spits.length - gh.1) (0, 0, n) ?_ ?_ ?_
 ·
  exact r_here (by repeat (first | exact FSub.nil | refine FSub.cons rfl ?_)) SelMC.sel SubRC.sub
 ·
  exact ⟨Nat.zero_le _, Int.le_refl _, Int.le_refl _, hn.1, Int.le_refl _, by show sodsOf _ _ _ = 0 + cutK _ _ 0 n; rw [cutK_0]; omega⟩
 ·
  rintro ⟨k, x, m⟩ hI0
  dsimp only at hI0
  dsimp only
  refine r_seq ?_
  refine r_seq ?_
  refine r_region ?_
  refine o_q _ rfl rfl rfl (v_move rfl rfl) ?_
  refine o_q _ rfl rfl rfl (v_move rfl rfl) ?_
  refine o_q _ rfl rfl rfl (v_len rfl rfl Try.underlying33 rfl) ?_
  refine o_q _ rfl rfl rfl (v_lss rfl rfl rfl) ?_
  refine o_nil ?_
  repeat (first | with_reducible refine r_then ?_ | with_reducible refine r_in_normal ?_ | with_reducible refine r_sc_normal ?_)
  first | refine r_condd rfl (fun hc13 => ?_) (fun hc13 => ?_) | refine r_cond rfl (fun hc13 => ?_) (fun hc13 => ?_)
  ·
   first
   | (exfalso; revert hc13; decide)
   | (exfalso; omega)
   |
    skip
    refine r_skip ?_
    repeat (first | with_reducible refine r_then ?_ | with_reducible refine r_in_normal ?_ | with_reducible refine r_sc_normal ?_)
    refine r_seq ?_
    refine r_block ?_
    refine r_seq ?_
    have h3 := hg.1
    have hck := hcb k (by omega)
    have hsp := hg.2.2.2.1 k (by omega)
    have hq : m.tdiv (cs.getD k default) = m / (cs.getD k default) := Int.tdiv_eq_ediv_of_nonneg (by omega)
    have hd0 : 0 ≤ m / (cs.getD k default) := Int.ediv_nonneg (by omega) (by omega)
    have hd1 : m / (cs.getD k default) ≤ m := Int.ediv_le_self _ (by omega)
    have hqb : -9223372036854775808 ≤ m.tdiv (cs.getD k default) ∧ m.tdiv (cs.getD k default) ≤ 9223372036854775807 := by omega
    have hm1 := min_mul (s := (B.spits.getD k default).sods) (m := m) (x := (cs.getD k default)) (by omega) (by omega) (by omega)
    have hmb := hm1.bd (by omega)
    have hm2 := hm1.lo
    have hm3 := hm1.hi
    refine r_region_q mixed (by kernel_rfl) ?_
    first | refine q_q _ rfl rfl rfl (v_fieldAddr rfl Try.underlying37 inf34 rfl rfl rfl rfl) ?_ | refine q_q _ rfl rfl rfl (v_fieldAddrE rfl Try.underlying37 inf34 rfl rfl rfl rfl) ?_
    first | refine q_q _ rfl rfl rfl (v_ld1 rfl Try.underlying34 rfl rfl rfl) ?_ | refine q_q _ rfl rfl rfl (v_lf1 rfl Try.underlying34 rfl rfl rfl) ?_ | refine q_q _ rfl rfl rfl (v_loadE1 rfl Try.underlying34 rfl rfl (by omega) rfl rfl) ?_
    refine q_q _ rfl rfl rfl (v_move rfl rfl) ?_
    first | refine q_q _ rfl rfl rfl (v_indexAddrSn rfl Try.underlying34 inf67 rfl rfl rfl (by omega) rfl) ?_ | refine q_q _ rfl rfl rfl (v_indexAddrS rfl Try.underlying34 inf67 rfl rfl rfl (by omega) (by omega) rfl) ?_
    first | refine q_q _ rfl rfl rfl (v_fieldAddr rfl Try.underlying67 inf3 rfl rfl rfl rfl) ?_ | refine q_q _ rfl rfl rfl (v_fieldAddrE rfl Try.underlying67 inf3 rfl rfl rfl rfl) ?_
    first | refine q_q _ rfl rfl rfl (v_ld1 rfl Try.underlying3 rfl rfl rfl) ?_ | refine q_q _ rfl rfl rfl (v_lf1 rfl Try.underlying3 rfl rfl rfl) ?_ | refine q_q _ rfl rfl rfl (v_loadE1 rfl Try.underlying3 rfl rfl (by omega) rfl rfl) ?_
    refine q_q _ rfl rfl rfl (v_move rfl rfl) ?_
    refine q_q _ rfl rfl rfl (v_move rfl rfl) ?_
    refine q_q _ rfl rfl rfl (v_move rfl rfl) ?_
    first | refine q_q _ rfl rfl rfl (v_indexAddrSn rfl Try.underlying33 inf3 rfl rfl rfl (by omega) rfl) ?_ | refine q_q _ rfl rfl rfl (v_indexAddrS rfl Try.underlying33 inf3 rfl rfl rfl (by omega) (by omega) rfl) ?_
    first | refine q_q _ rfl rfl rfl (v_ld1 rfl Try.underlying3 rfl rfl rfl) ?_ | refine q_q _ rfl rfl rfl (v_lf1 rfl Try.underlying3 rfl rfl rfl) ?_ | refine q_q _ rfl rfl rfl (v_loadE1 rfl Try.underlying3 rfl rfl (by omega) rfl rfl) ?_
    refine q_q _ rfl rfl rfl (v_cast (v := i64 (m / (cs.getD k default))) (v_quo rfl rfl rfl (by omega) hqb) (congrArg (Value.int .i64) hq)) ?_
    first | refine q_q _ rfl rfl rfl (v_min2 rfl rfl rfl) ?_ | refine q_q _ rfl rfl rfl (v_min3 rfl rfl rfl rfl) ?_
    refine q_q _ rfl rfl rfl (v_assign rfl rfl) ?_
    refine q_nil ?_
    repeat (first | with_reducible refine r_then ?_ | with_reducible refine r_in_normal ?_ | with_reducible refine r_sc_normal ?_)
    refine r_seq ?_
    refine r_region_q mixed (by kernel_rfl) ?_
    refine q_q _ rfl rfl rfl (v_move rfl rfl) ?_
    refine q_q _ rfl rfl rfl (v_move rfl rfl) ?_
    refine q_q _ rfl rfl rfl (v_add rfl rfl rfl (by omega)) ?_
    refine q_q _ rfl rfl rfl (v_move rfl rfl) ?_
    refine q_q _ rfl rfl rfl (v_move rfl rfl) ?_
    refine q_q _ rfl rfl rfl (v_move rfl rfl) ?_
    refine q_q _ rfl rfl rfl (v_move rfl rfl) ?_
    first | refine q_q _ rfl rfl rfl (v_indexAddrSn rfl Try.underlying33 inf3 rfl rfl rfl (by omega) rfl) ?_ | refine q_q _ rfl rfl rfl (v_indexAddrS rfl Try.underlying33 inf3 rfl rfl rfl (by omega) (by omega) rfl) ?_
    first | refine q_q _ rfl rfl rfl (v_ld1 rfl Try.underlying3 rfl rfl rfl) ?_ | refine q_q _ rfl rfl rfl (v_lf1 rfl Try.underlying3 rfl rfl rfl) ?_ | refine q_q _ rfl rfl rfl (v_loadE1 rfl Try.underlying3 rfl rfl (by omega) rfl rfl) ?_
    refine q_q _ rfl rfl rfl (v_cast (v := i64 (min (B.spits.getD k default).sods (m / (cs.getD k default)) * (cs.getD k default))) (v_mul rfl rfl rfl hmb) rfl) ?_
    refine q_q _ rfl rfl rfl (v_sub rfl rfl rfl (by omega)) ?_
    refine q_q _ rfl rfl rfl (v_assign rfl rfl) ?_
    refine q_q _ rfl rfl rfl (v_assign rfl rfl) ?_
    refine q_nil ?_
    repeat (first | with_reducible refine r_then ?_ | with_reducible refine r_in_normal ?_ | with_reducible refine r_sc_normal ?_)
    refine r_seq ?_
    have hdv := cutK_div (B := B) (c := ofL cs) (k := k) (m := m) (by omega)
    rw [at_ofL (by omega)] at hdv
    refine r_region ?_
    refine o_q _ rfl rfl rfl (v_move rfl rfl) ?_
    first | refine o_q _ rfl rfl rfl (v_fieldAddr rfl Try.underlying37 inf34 rfl rfl rfl rfl) ?_ | refine o_q _ rfl rfl rfl (v_fieldAddrE rfl Try.underlying37 inf34 rfl rfl rfl rfl) ?_
    first | refine o_q _ rfl rfl rfl (v_ld1 rfl Try.underlying34 rfl rfl rfl) ?_ | refine o_q _ rfl rfl rfl (v_lf1 rfl Try.underlying34 rfl rfl rfl) ?_ | refine o_q _ rfl rfl rfl (v_loadE1 rfl Try.underlying34 rfl rfl (by omega) rfl rfl) ?_
    refine o_q _ rfl rfl rfl (v_move rfl rfl) ?_
    first | refine o_q _ rfl rfl rfl (v_indexAddrSn rfl Try.underlying34 inf67 rfl rfl rfl (by omega) rfl) ?_ | refine o_q _ rfl rfl rfl (v_indexAddrS rfl Try.underlying34 inf67 rfl rfl rfl (by omega) (by omega) rfl) ?_
    first | refine o_q _ rfl rfl rfl (v_fieldAddr rfl Try.underlying67 inf3 rfl rfl rfl rfl) ?_ | refine o_q _ rfl rfl rfl (v_fieldAddrE rfl Try.underlying67 inf3 rfl rfl rfl rfl) ?_
    first | refine o_q _ rfl rfl rfl (v_ld1 rfl Try.underlying3 rfl rfl rfl) ?_ | refine o_q _ rfl rfl rfl (v_lf1 rfl Try.underlying3 rfl rfl rfl) ?_ | refine o_q _ rfl rfl rfl (v_loadE1 rfl Try.underlying3 rfl rfl (by omega) rfl rfl) ?_
    refine o_q _ rfl rfl rfl (v_lss rfl rfl rfl) ?_
    refine o_nil ?_
    repeat (first | with_reducible refine r_then ?_ | with_reducible refine r_in_normal ?_ | with_reducible refine r_sc_normal ?_)
    first | refine r_condd rfl (fun hc47 => ?_) (fun hc47 => ?_) | refine r_cond rfl (fun hc47 => ?_) (fun hc47 => ?_)
    ·
     first
     | (exfalso; revert hc47; decide)
     | (exfalso; omega)
     |
      skip
      refine r_seq ?_
      refine r_region ?_
      refine o_q _ rfl rfl rfl (v_move rfl rfl) ?_
      refine o_q _ rfl rfl rfl (v_assign rfl rfl) ?_
      refine o_nil ?_
      repeat (first | with_reducible refine r_then ?_ | with_reducible refine r_in_normal ?_ | with_reducible refine r_sc_normal ?_)
      refine r_ret ?_
      repeat (first | with_reducible refine r_then_ret ?_ | with_reducible refine r_in_ret ?_ | with_reducible refine r_sc_ret ?_)
      first
      | (rw [if_pos (by assumption)] at hdv; exact r_retv2 (Rd.tmp rfl rfl) (congrArg (Value.int .i64) (by omega)) SelMC.sel SubRC.sub)
      | (have hk9 : k = cs.length := (by omega); subst hk9; rw [cutK_end (B := B) (c := ofL cs) (k := cs.length) (m := m) (by omega)] at hI0; exact r_retv2 (Rd.tmp rfl rfl) (congrArg (Value.int .i64) (by omega)) SelMC.sel SubRC.sub)
    ·
     first
     | (exfalso; revert hc47; decide)
     | (exfalso; omega)
     |
      skip
      refine r_skip ?_
      repeat (first | with_reducible refine r_then ?_ | with_reducible refine r_in_normal ?_ | with_reducible refine r_sc_normal ?_)
      refine r_region ?_
      refine o_q _ rfl rfl rfl (v_move rfl rfl) ?_
      refine o_q _ rfl rfl rfl (v_add rfl rfl rfl (by omega)) ?_
      refine o_q _ rfl rfl rfl (v_assign rfl rfl) ?_
      refine o_nil ?_
      repeat (first | with_reducible refine r_then ?_ | with_reducible refine r_in_normal ?_ | with_reducible refine r_sc_normal ?_)
      first
      | exact r_next ((k + 1, x + min (B.spits.getD k default).sods (m / (cs.getD k default)), m - min (B.spits.getD k default).sods (m / (cs.getD k default)) * (cs.getD k default))) (by exact r_here (by repeat (first | exact FSub.nil | refine FSub.cons rfl ?_)) SelMC.sel SubRC.sub) (by dsimp only; rw [if_neg (by assumption)] at hdv; exact ⟨by omega, by omega, by push_cast; omega, by omega, by omega, by omega⟩) (by show _ - (_ + 1) < _ - _; omega)
  ·
   first
   | (exfalso; revert hc13; decide)
   | (exfalso; omega)
   |
    skip
    refine r_exit ?_
    repeat (first | with_reducible refine r_then_exit ?_ | with_reducible refine r_sc_exit ?_ | with_reducible refine r_in_here ?_ | (with_reducible refine r_in_past (by decide) ?_) | with_reducible refine r_then ?_ | with_reducible refine r_in_normal ?_ | with_reducible refine r_sc_normal ?_)
    refine r_seq ?_
    refine r_region ?_
    refine o_q _ rfl rfl rfl (v_move rfl rfl) ?_
    refine o_q _ rfl rfl rfl (v_assign rfl rfl) ?_
    refine o_nil ?_
    repeat (first | with_reducible refine r_then ?_ | with_reducible refine r_in_normal ?_ | with_reducible refine r_sc_normal ?_)
    refine r_ret ?_
    repeat (first | with_reducible refine r_then_ret ?_ | with_reducible refine r_in_ret ?_ | with_reducible refine r_sc_ret ?_)
    first
    | (rw [if_pos (by assumption)] at hdv; exact r_retv2 (Rd.tmp rfl rfl) (congrArg (Value.int .i64) (by omega)) SelMC.sel SubRC.sub)
    | (have hk9 : k = cs.length := (by omega); subst hk9; rw [cutK_end (B := B) (c := ofL cs) (k := cs.length) (m := m) (by omega)] at hI0; exact r_retv2 (Rd.tmp rfl rfl) (congrArg (Value.int .i64) (by omega)) SelMC.sel SubRC.sub)
end Go.Proofs.Ytpndeonmmcaikaa.SodW


namespace Go.Proofs.Ytpndeonmmcaikaa.FootW
open Go.G Foot4
set_option maxRecDepth 1000000
attribute [local irreducible] G.ParO G.Fin
set_option maxHeartbeats 4000000 in
theorem in_v (a b c : Int) : FnV Try.prog 15 [i64 a, i64 b, i64 c] [] (.bool (decide (b ≤ a ∧ a ≤ c))) := by
 refine FnV.intro Try.call15 Try.func15 rfl Try.ntmps15 rfl ?_
 intro W M Rf
 refine r_seq ?_
 refine r_region ?_
 refine o_q _ rfl rfl rfl (v_assign rfl rfl) ?_
 refine o_nil ?_
 with_reducible refine r_then ?_
 refine r_seq ?_
 refine r_region ?_
 refine o_q _ rfl rfl rfl (v_move rfl rfl) ?_
 refine o_q _ rfl rfl rfl (v_move rfl rfl) ?_
 refine o_test rfl rfl rfl (v_leq rfl rfl rfl) (fun h9 => ?_) (fun h9 => ?_)
 all_goals
  refine o_q _ rfl rfl rfl (v_move rfl rfl) ?_
  first | refine o_gn rfl rfl rfl rfl ?_ | refine o_g _ rfl rfl rfl rfl (v_move rfl rfl) ?_
  first | refine o_gn rfl rfl rfl rfl ?_ | refine o_g _ rfl rfl rfl rfl (v_move rfl rfl) ?_
  first | refine o_gn rfl rfl rfl rfl ?_ | refine o_gtest rfl rfl rfl rfl (v_leq rfl rfl rfl) (fun h13 => ?_) (fun h13 => ?_)
  all_goals
   first | refine o_q _ rfl rfl rfl (v_pick_t rfl rfl rfl) ?_ | refine o_q _ rfl rfl rfl (v_pick_f rfl rfl rfl) ?_
   refine o_q _ rfl rfl rfl (v_assign rfl rfl) ?_
   refine o_nil ?_
   with_reducible refine r_then ?_
   refine r_ret ?_
   first | exact r_retv2 (Rd.tmp rfl rfl) (congrArg Value.bool (decide_eq_true (by omega)).symm) SelMC.sel SubRC.sub | exact r_retv2 (Rd.tmp rfl rfl) (congrArg Value.bool (decide_eq_false (by omega)).symm) SelMC.sel SubRC.sub
set_option maxHeartbeats 4000000 in
theorem span_v (lo hi a b : Int) : FnV Try.prog 16 [.agg #[i64 lo, i64 hi], i64 a, i64 b] [] (.bool (decide (a ≤ lo ∧ lo ≤ hi ∧ hi ≤ b))) := by
 refine FnV.intro Try.call16 Try.func16 rfl Try.ntmps16 rfl ?_
 intro W M Rf
 refine r_seq ?_
 refine r_region ?_
 refine o_boxA rfl rfl rfl rfl rfl (fun b3 => ?_)
 refine o_q _ rfl rfl rfl (v_assign rfl rfl) ?_
 refine o_nil ?_
 with_reducible refine r_then ?_
 refine r_seq ?_
 refine r_region ?_
 refine o_q _ rfl rfl rfl (v_move rfl rfl) ?_
 refine o_q _ rfl rfl rfl (v_fieldAddr rfl Try.underlying42 inf3 rfl rfl rfl rfl) ?_
 refine o_q _ rfl rfl rfl (v_ld1 rfl Try.underlying3 rfl rfl rfl) ?_
 refine o_test rfl rfl rfl (v_leq rfl rfl rfl) (fun h10 => ?_) (fun h10 => ?_)
 all_goals
  refine o_q _ rfl rfl rfl (v_move rfl rfl) ?_
  first | refine o_gn rfl rfl rfl rfl ?_ | refine o_g _ rfl rfl rfl rfl (v_fieldAddr rfl Try.underlying42 inf3 rfl rfl rfl rfl) ?_
  first | refine o_gn rfl rfl rfl rfl ?_ | refine o_g _ rfl rfl rfl rfl (v_ld1 rfl Try.underlying3 rfl rfl rfl) ?_
  first | refine o_gn rfl rfl rfl rfl ?_ | refine o_g _ rfl rfl rfl rfl (v_fieldAddr rfl Try.underlying42 inf3 rfl rfl rfl rfl) ?_
  first | refine o_gn rfl rfl rfl rfl ?_ | refine o_g _ rfl rfl rfl rfl (v_ld1 rfl Try.underlying3 rfl rfl rfl) ?_
  first | refine o_gn rfl rfl rfl rfl ?_ | refine o_gtest rfl rfl rfl rfl (v_leq rfl rfl rfl) (fun h16 => ?_) (fun h16 => ?_)
  all_goals
   first | refine o_q _ rfl rfl rfl (v_pick_t rfl rfl rfl) ?_ | refine o_q _ rfl rfl rfl (v_pick_f rfl rfl rfl) ?_
   refine o_q _ rfl rfl rfl (v_move rfl rfl) ?_
   first | refine o_gn rfl rfl rfl rfl ?_ | refine o_g _ rfl rfl rfl rfl (v_fieldAddr rfl Try.underlying42 inf3 rfl rfl rfl rfl) ?_
   first | refine o_gn rfl rfl rfl rfl ?_ | refine o_g _ rfl rfl rfl rfl (v_ld1 rfl Try.underlying3 rfl rfl rfl) ?_
   first | refine o_gn rfl rfl rfl rfl ?_ | refine o_g _ rfl rfl rfl rfl (v_move rfl rfl) ?_
   first | refine o_gn rfl rfl rfl rfl ?_ | refine o_gtest rfl rfl rfl rfl (v_leq rfl rfl rfl) (fun h22 => ?_) (fun h22 => ?_)
   all_goals
    first | refine o_q _ rfl rfl rfl (v_pick_t rfl rfl rfl) ?_ | refine o_q _ rfl rfl rfl (v_pick_f rfl rfl rfl) ?_
    refine o_q _ rfl rfl rfl (v_assign rfl rfl) ?_
    refine o_nil ?_
    with_reducible refine r_then ?_
    refine r_ret ?_
    first | exact r_retv2 (Rd.tmp rfl rfl) (congrArg Value.bool (decide_eq_true (by omega)).symm) SelMC.sel SubRC.sub | exact r_retv2 (Rd.tmp rfl rfl) (congrArg Value.bool (decide_eq_false (by omega)).symm) SelMC.sel SubRC.sub
set_option maxHeartbeats 4000000 in
theorem Foot_v (F : Work) (ro ho : Option Addr) (rc hc : Nat) (hr : F.rain.length ≤ 40) (hh : F.heaps.length ≤ 40) : FnV Try.prog 4 [valF F ro rc ho hc] [rowD ro 2 encS F.rain, rowD ho 3 encH F.heaps] (.bool (decide (GoodF F))) := by
 refine FnV.intro Try.call4 Try.func4 rfl Try.ntmps4 rfl ?_
 intro W M Rf
 refine r_seq ?_
 refine r_region ?_
 refine o_boxA rfl rfl rfl rfl rfl (fun b1 => ?_)
 refine o_q _ rfl rfl rfl (v_assign rfl rfl) ?_
 refine o_nil ?_
 with_reducible refine r_then ?_
 refine r_seq ?_
 refine r_seq ?_
 refine r_region ?_
 refine o_q _ rfl rfl rfl (v_fieldAddr rfl Try.underlying26 inf22 rfl rfl rfl rfl) ?_
 refine o_q _ rfl rfl rfl (v_ld1 rfl Try.underlying22 rfl rfl rfl) ?_
 refine o_q _ rfl rfl rfl (v_len rfl rfl Try.underlying22 rfl) ?_
 refine o_test rfl rfl rfl (OpQ.fn (in_v _ _ _) rfl rfl SubRC.sub) (fun h9 => ?_) (fun h9 => ?_)
 all_goals
  refine o_q _ rfl rfl rfl (v_not rfl rfl) ?_
  refine o_q _ rfl rfl rfl (v_move rfl rfl) ?_
  first | refine o_gn rfl rfl rfl rfl ?_ | refine o_g _ rfl rfl rfl rfl (v_fieldAddr rfl Try.underlying26 inf3 rfl rfl rfl rfl) ?_
  first | refine o_gn rfl rfl rfl rfl ?_ | refine o_g _ rfl rfl rfl rfl (v_ld1 rfl Try.underlying3 rfl rfl rfl) ?_
  first | refine o_gn rfl rfl rfl rfl ?_ | refine o_gtest rfl rfl rfl rfl (OpQ.fn (in_v _ _ _) rfl rfl SubRC.sub) (fun h14 => ?_) (fun h14 => ?_)
  all_goals
   first | refine o_gn rfl rfl rfl rfl ?_ | refine o_g _ rfl rfl rfl rfl (v_not rfl rfl) ?_
   first | refine o_q _ rfl rfl rfl (v_pick_t rfl rfl rfl) ?_ | refine o_q _ rfl rfl rfl (v_pick_f rfl rfl rfl) ?_
   refine o_q _ rfl rfl rfl (v_move rfl rfl) ?_
   first | refine o_gn rfl rfl rfl rfl ?_ | refine o_g _ rfl rfl rfl rfl (v_fieldAddr rfl Try.underlying26 inf24 rfl rfl rfl rfl) ?_
   first | refine o_gn rfl rfl rfl rfl ?_ | refine o_g _ rfl rfl rfl rfl (v_ld1 rfl Try.underlying24 rfl rfl rfl) ?_
   first | refine o_gn rfl rfl rfl rfl ?_ | refine o_g _ rfl rfl rfl rfl (v_len rfl rfl Try.underlying24 rfl) ?_
   first | refine o_gn rfl rfl rfl rfl ?_ | refine o_gtest rfl rfl rfl rfl (v_gtr rfl rfl rfl) (fun h21 => ?_) (fun h21 => ?_)
   all_goals
    first | refine o_q _ rfl rfl rfl (v_pick_t rfl rfl rfl) ?_ | refine o_q _ rfl rfl rfl (v_pick_f rfl rfl rfl) ?_
    refine o_nil ?_
    with_reducible refine r_then ?_
    refine r_cond rfl (fun hc22 => ?_) (fun hc22 => ?_)
    ·
     first
     | (exfalso; revert hc22; decide)
     |
      skip
      refine r_seq ?_
      refine r_region ?_
      refine o_q _ rfl rfl rfl (v_assign rfl rfl) ?_
      refine o_nil ?_
      with_reducible refine r_then ?_
      refine r_ret ?_
      with_reducible refine r_then_ret ?_
      exact r_retv2 (Rd.tmp rfl rfl) (congrArg Value.bool (decide_eq_false (by intro g; obtain ⟨g1, g2, g3, g4, g5, g6⟩ := g; first | omega | (have g9 := g4 k1 (by omega); omega) | (have g9 := g5 k2 (by omega); omega) | (have g9 := g6 k3 (by omega); omega))).symm) SelMC.sel SubRC.sub
    ·
     first
     | (exfalso; revert hc22; decide)
     |
      skip
      refine r_skip ?_
      with_reducible refine r_then ?_
      refine r_seq ?_
      refine r_seq ?_
      refine r_region ?_
      refine o_q _ rfl rfl rfl (v_assign rfl rfl) ?_
      refine o_nil ?_
      with_reducible refine r_then ?_
      refine r_block ?_
      refine r_loop (ι := Nat) (fun k1 => k1 ≤ F.rain.length ∧ ∀ j, j < k1 → SpanOk (F.rain.getD j default) 10) (fun k1 => [(1, pt b1 0), (3, i64 k1)]) (fun k1 => bx b1 26 (cellsF F ro rc ho hc) :: M) (fun k1 => [rowD ro 2 encS F.rain, rowD ho 3 encH F.heaps] ++ Rf) (fun k1 => F.rain.length - k1) 0 ?_ ?_ ?_
      ·
       exact r_here (by repeat (first | exact FSub.nil | refine FSub.cons rfl ?_)) SelMC.sel SubRC.sub
      ·
       exact ⟨by omega, fun j hj => absurd hj (by omega)⟩
      ·
       rintro k1 hI0
       refine r_seq ?_
       refine r_seq ?_
       refine r_region ?_
       refine o_q _ rfl rfl rfl (v_move rfl rfl) ?_
       refine o_q _ rfl rfl rfl (v_fieldAddr rfl Try.underlying26 inf22 rfl rfl rfl rfl) ?_
       refine o_q _ rfl rfl rfl (v_ld1 rfl Try.underlying22 rfl rfl rfl) ?_
       refine o_q _ rfl rfl rfl (v_len rfl rfl Try.underlying22 rfl) ?_
       refine o_q _ rfl rfl rfl (v_lss rfl rfl rfl) ?_
       refine o_nil ?_
       with_reducible refine r_then ?_
       refine r_condd rfl (fun hc27 => ?_) (fun hc27 => ?_)
       ·
        refine r_skip ?_
        with_reducible refine r_then ?_
        refine r_seq ?_
        refine r_block ?_
        refine r_seq ?_
        refine r_region ?_
        refine o_q _ rfl rfl rfl (v_fieldAddr rfl Try.underlying26 inf22 rfl rfl rfl rfl) ?_
        refine o_q _ rfl rfl rfl (v_ld1 rfl Try.underlying22 rfl rfl rfl) ?_
        refine o_q _ rfl rfl rfl (v_move rfl rfl) ?_
        refine o_q _ rfl rfl rfl (v_indexAddrSn rfl Try.underlying22 inf42 rfl rfl rfl (by omega) rfl) ?_
        refine o_q _ rfl rfl rfl (v_loadEN rfl Try.underlying42 rfl inf42 rfl (by omega) rfl rfl rfl) ?_
        refine o_test rfl rfl rfl (OpQ.fn (span_v _ _ _ _) rfl rfl SubRC.sub) (fun h35 => ?_) (fun h35 => ?_)
        all_goals
         refine o_q _ rfl rfl rfl (v_not rfl rfl) ?_
         refine o_nil ?_
         with_reducible refine r_then ?_
         refine r_cond rfl (fun hc36 => ?_) (fun hc36 => ?_)
         ·
          first
          | (exfalso; revert hc36; decide)
          |
           skip
           refine r_seq ?_
           refine r_region ?_
           refine o_q _ rfl rfl rfl (v_assign rfl rfl) ?_
           refine o_nil ?_
           with_reducible refine r_then ?_
           refine r_ret ?_
           with_reducible refine r_in_ret ?_; refine r_then_ret ?_; refine r_then_ret ?_; refine r_in_ret ?_; refine r_then_ret ?_
           exact r_retv2 (Rd.tmp rfl rfl) (congrArg Value.bool (decide_eq_false (by intro g; obtain ⟨g1, g2, g3, g4, g5, g6⟩ := g; first | omega | (have g9 := g4 k1 (by omega); omega) | (have g9 := g5 k2 (by omega); omega) | (have g9 := g6 k3 (by omega); omega))).symm) SelMC.sel SubRC.sub
         ·
          first
          | (exfalso; revert hc36; decide)
          |
           skip
           refine r_skip ?_
           with_reducible refine r_in_normal ?_; refine r_then ?_
           refine r_region ?_
           refine o_q _ rfl rfl rfl (v_move rfl rfl) ?_
           refine o_q _ rfl rfl rfl (v_add rfl rfl rfl (by omega)) ?_
           refine o_q _ rfl rfl rfl (v_assign rfl rfl) ?_
           refine o_nil ?_
           with_reducible refine r_then ?_
           refine r_next (k1 + 1) ?_ ?_ ?_
           ·
            exact r_here (by repeat (first | exact FSub.nil | refine FSub.cons rfl ?_)) SelMC.sel SubRC.sub
           ·
            exact ⟨by omega, Foot4.all_step hI0.2 (by assumption)⟩
           ·
            omega
       ·
        refine r_exit ?_
        with_reducible refine r_then_exit ?_; refine r_then_exit ?_; refine r_in_here ?_; refine r_then ?_
        refine r_seq ?_
        refine r_seq ?_
        refine r_region ?_
        refine o_q _ rfl rfl rfl (v_assign rfl rfl) ?_
        refine o_nil ?_
        with_reducible refine r_then ?_
        refine r_block ?_
        refine r_loop (ι := Nat) (fun k2 => k2 ≤ 3 ∧ ∀ j, j < k2 → (0 ≤ F.lim.at j ∧ F.lim.at j ≤ 60) ∧ (0 ≤ F.dr.at j ∧ F.dr.at j ≤ 10)) (fun k2 => [(1, pt b1 0), (4, i64 k2)]) (fun k2 => bx b1 26 (cellsF F ro rc ho hc) :: M) (fun k2 => [rowD ro 2 encS F.rain, rowD ho 3 encH F.heaps] ++ Rf) (fun k2 => 3 - k2) 0 ?_ ?_ ?_
        ·
         exact r_here (by repeat (first | exact FSub.nil | refine FSub.cons rfl ?_)) SelMC.sel SubRC.sub
        ·
         exact ⟨by omega, fun j hj => absurd hj (by omega)⟩
        ·
         rintro k2 hI1
         refine r_seq ?_
         refine r_seq ?_
         refine r_region ?_
         refine o_q _ rfl rfl rfl (v_move rfl rfl) ?_
         refine o_q _ rfl rfl rfl (v_lss rfl rfl rfl) ?_
         refine o_nil ?_
         with_reducible refine r_then ?_
         refine r_condd rfl (fun hc38 => ?_) (fun hc38 => ?_)
         ·
          refine r_skip ?_
          with_reducible refine r_then ?_
          refine r_seq ?_
          refine r_block ?_
          refine r_seq ?_
          refine r_region ?_
          refine o_q _ rfl rfl rfl (v_move rfl rfl) ?_
          refine o_q _ rfl rfl rfl (v_fieldAddr rfl Try.underlying26 inf23 rfl rfl rfl rfl) ?_
          refine o_q _ rfl rfl rfl (v_indexAddrAn rfl Try.underlying23 inf3 rfl rfl (by omega)) ?_
          refine o_q _ rfl rfl rfl (v_ld1 rfl Try.underlying3 rfl rfl (F_limn (by omega))) ?_
          refine o_test rfl rfl rfl (OpQ.fn (in_v _ _ _) rfl rfl SubRC.sub) (fun h45 => ?_) (fun h45 => ?_)
          all_goals
           refine o_q _ rfl rfl rfl (v_not rfl rfl) ?_
           refine o_q _ rfl rfl rfl (v_move rfl rfl) ?_
           first | refine o_gn rfl rfl rfl rfl ?_ | refine o_g _ rfl rfl rfl rfl (v_move rfl rfl) ?_
           first | refine o_gn rfl rfl rfl rfl ?_ | refine o_g _ rfl rfl rfl rfl (v_fieldAddr rfl Try.underlying26 inf23 rfl rfl rfl rfl) ?_
           first | refine o_gn rfl rfl rfl rfl ?_ | refine o_g _ rfl rfl rfl rfl (v_indexAddrAn rfl Try.underlying23 inf3 rfl rfl (by omega)) ?_
           first | refine o_gn rfl rfl rfl rfl ?_ | refine o_g _ rfl rfl rfl rfl (v_ld1 rfl Try.underlying3 rfl rfl (F_drn (by omega))) ?_
           first | refine o_gn rfl rfl rfl rfl ?_ | refine o_gtest rfl rfl rfl rfl (OpQ.fn (in_v _ _ _) rfl rfl SubRC.sub) (fun h52 => ?_) (fun h52 => ?_)
           all_goals
            first | refine o_gn rfl rfl rfl rfl ?_ | refine o_g _ rfl rfl rfl rfl (v_not rfl rfl) ?_
            first | refine o_q _ rfl rfl rfl (v_pick_t rfl rfl rfl) ?_ | refine o_q _ rfl rfl rfl (v_pick_f rfl rfl rfl) ?_
            refine o_nil ?_
            with_reducible refine r_then ?_
            refine r_cond rfl (fun hc54 => ?_) (fun hc54 => ?_)
            ·
             first
             | (exfalso; revert hc54; decide)
             |
              skip
              refine r_seq ?_
              refine r_region ?_
              refine o_q _ rfl rfl rfl (v_assign rfl rfl) ?_
              refine o_nil ?_
              with_reducible refine r_then ?_
              refine r_ret ?_
              with_reducible refine r_in_ret ?_; refine r_then_ret ?_; refine r_then_ret ?_; refine r_in_ret ?_; refine r_then_ret ?_
              exact r_retv2 (Rd.tmp rfl rfl) (congrArg Value.bool (decide_eq_false (by intro g; obtain ⟨g1, g2, g3, g4, g5, g6⟩ := g; first | omega | (have g9 := g4 k1 (by omega); omega) | (have g9 := g5 k2 (by omega); omega) | (have g9 := g6 k3 (by omega); omega))).symm) SelMC.sel SubRC.sub
            ·
             first
             | (exfalso; revert hc54; decide)
             |
              skip
              refine r_skip ?_
              with_reducible refine r_in_normal ?_; refine r_then ?_
              refine r_region ?_
              refine o_q _ rfl rfl rfl (v_move rfl rfl) ?_
              refine o_q _ rfl rfl rfl (v_add rfl rfl rfl (by omega)) ?_
              refine o_q _ rfl rfl rfl (v_assign rfl rfl) ?_
              refine o_nil ?_
              with_reducible refine r_then ?_
              refine r_next (k2 + 1) ?_ ?_ ?_
              ·
               exact r_here (by repeat (first | exact FSub.nil | refine FSub.cons rfl ?_)) SelMC.sel SubRC.sub
              ·
               exact ⟨by omega, Foot4.all_step hI1.2 ⟨by assumption, by assumption⟩⟩
              ·
               omega
         ·
          refine r_exit ?_
          with_reducible refine r_then_exit ?_; refine r_then_exit ?_; refine r_in_here ?_; refine r_then ?_
          refine r_seq ?_
          refine r_seq ?_
          refine r_region ?_
          refine o_q _ rfl rfl rfl (v_assign rfl rfl) ?_
          refine o_nil ?_
          with_reducible refine r_then ?_
          refine r_block ?_
          refine r_loop (ι := Nat) (fun k3 => k3 ≤ F.heaps.length ∧ ∀ j, j < k3 → (0 ≤ (F.heaps.getD j default).lo ∧ (F.heaps.getD j default).lo ≤ (F.heaps.getD j default).hi ∧ (F.heaps.getD j default).hi ≤ 60) ∧ (0 ≤ (F.heaps.getD j default).sods ∧ (F.heaps.getD j default).sods ≤ 500)) (fun k3 => [(1, pt b1 0), (5, i64 k3)]) (fun k3 => bx b1 26 (cellsF F ro rc ho hc) :: M) (fun k3 => [rowD ro 2 encS F.rain, rowD ho 3 encH F.heaps] ++ Rf) (fun k3 => F.heaps.length - k3) 0 ?_ ?_ ?_
          ·
           exact r_here (by repeat (first | exact FSub.nil | refine FSub.cons rfl ?_)) SelMC.sel SubRC.sub
          ·
           exact ⟨by omega, fun j hj => absurd hj (by omega)⟩
          ·
           rintro k3 hI2
           refine r_seq ?_
           refine r_seq ?_
           refine r_region ?_
           refine o_q _ rfl rfl rfl (v_move rfl rfl) ?_
           refine o_q _ rfl rfl rfl (v_fieldAddr rfl Try.underlying26 inf24 rfl rfl rfl rfl) ?_
           refine o_q _ rfl rfl rfl (v_ld1 rfl Try.underlying24 rfl rfl rfl) ?_
           refine o_q _ rfl rfl rfl (v_len rfl rfl Try.underlying24 rfl) ?_
           refine o_q _ rfl rfl rfl (v_lss rfl rfl rfl) ?_
           refine o_nil ?_
           with_reducible refine r_then ?_
           refine r_condd rfl (fun hc59 => ?_) (fun hc59 => ?_)
           ·
            refine r_skip ?_
            with_reducible refine r_then ?_
            refine r_seq ?_
            refine r_block ?_
            refine r_seq ?_
            refine r_region ?_
            refine o_q _ rfl rfl rfl (v_fieldAddr rfl Try.underlying26 inf24 rfl rfl rfl rfl) ?_
            refine o_q _ rfl rfl rfl (v_ld1 rfl Try.underlying24 rfl rfl rfl) ?_
            refine o_q _ rfl rfl rfl (v_move rfl rfl) ?_
            refine o_q _ rfl rfl rfl (v_indexAddrSn rfl Try.underlying24 inf47 rfl rfl rfl (by omega) rfl) ?_
            refine o_q _ rfl rfl rfl (v_fieldAddr rfl Try.underlying47 inf42 rfl rfl rfl rfl) ?_
            refine o_q _ rfl rfl rfl (v_loadEN rfl Try.underlying42 rfl inf42 rfl (by omega) rfl rfl rfl) ?_
            refine o_test rfl rfl rfl (OpQ.fn (span_v _ _ _ _) rfl rfl SubRC.sub) (fun h68 => ?_) (fun h68 => ?_)
            all_goals
             refine o_q _ rfl rfl rfl (v_not rfl rfl) ?_
             refine o_q _ rfl rfl rfl (v_move rfl rfl) ?_
             first | refine o_gn rfl rfl rfl rfl ?_ | refine o_g _ rfl rfl rfl rfl (v_fieldAddr rfl Try.underlying26 inf24 rfl rfl rfl rfl) ?_
             first | refine o_gn rfl rfl rfl rfl ?_ | refine o_g _ rfl rfl rfl rfl (v_ld1 rfl Try.underlying24 rfl rfl rfl) ?_
             first | refine o_gn rfl rfl rfl rfl ?_ | refine o_g _ rfl rfl rfl rfl (v_move rfl rfl) ?_
             first | refine o_gn rfl rfl rfl rfl ?_ | refine o_g _ rfl rfl rfl rfl (v_indexAddrSn rfl Try.underlying24 inf47 rfl rfl rfl (by omega) rfl) ?_
             first | refine o_gn rfl rfl rfl rfl ?_ | refine o_g _ rfl rfl rfl rfl (v_fieldAddr rfl Try.underlying47 inf3 rfl rfl rfl rfl) ?_
             first | refine o_gn rfl rfl rfl rfl ?_ | refine o_g _ rfl rfl rfl rfl (v_loadE1 rfl Try.underlying3 rfl rfl (by omega) rfl rfl) ?_
             first | refine o_gn rfl rfl rfl rfl ?_ | refine o_gtest rfl rfl rfl rfl (OpQ.fn (in_v _ _ _) rfl rfl SubRC.sub) (fun h77 => ?_) (fun h77 => ?_)
             all_goals
              first | refine o_gn rfl rfl rfl rfl ?_ | refine o_g _ rfl rfl rfl rfl (v_not rfl rfl) ?_
              first | refine o_q _ rfl rfl rfl (v_pick_t rfl rfl rfl) ?_ | refine o_q _ rfl rfl rfl (v_pick_f rfl rfl rfl) ?_
              refine o_nil ?_
              with_reducible refine r_then ?_
              refine r_cond rfl (fun hc79 => ?_) (fun hc79 => ?_)
              ·
               first
               | (exfalso; revert hc79; decide)
               |
                skip
                refine r_seq ?_
                refine r_region ?_
                refine o_q _ rfl rfl rfl (v_assign rfl rfl) ?_
                refine o_nil ?_
                with_reducible refine r_then ?_
                refine r_ret ?_
                with_reducible refine r_in_ret ?_; refine r_then_ret ?_; refine r_then_ret ?_; refine r_in_ret ?_; refine r_then_ret ?_
                exact r_retv2 (Rd.tmp rfl rfl) (congrArg Value.bool (decide_eq_false (by intro g; obtain ⟨g1, g2, g3, g4, g5, g6⟩ := g; first | omega | (have g9 := g4 k1 (by omega); omega) | (have g9 := g5 k2 (by omega); omega) | (have g9 := g6 k3 (by omega); omega))).symm) SelMC.sel SubRC.sub
              ·
               first
               | (exfalso; revert hc79; decide)
               |
                skip
                refine r_skip ?_
                with_reducible refine r_in_normal ?_; refine r_then ?_
                refine r_region ?_
                refine o_q _ rfl rfl rfl (v_move rfl rfl) ?_
                refine o_q _ rfl rfl rfl (v_add rfl rfl rfl (by omega)) ?_
                refine o_q _ rfl rfl rfl (v_assign rfl rfl) ?_
                refine o_nil ?_
                with_reducible refine r_then ?_
                refine r_next (k3 + 1) ?_ ?_ ?_
                ·
                 exact r_here (by repeat (first | exact FSub.nil | refine FSub.cons rfl ?_)) SelMC.sel SubRC.sub
                ·
                 exact ⟨by omega, Foot4.all_step hI2.2 ⟨by assumption, by assumption⟩⟩
                ·
                 omega
           ·
            refine r_exit ?_
            with_reducible refine r_then_exit ?_; refine r_then_exit ?_; refine r_in_here ?_; refine r_then ?_
            refine r_seq ?_
            refine r_region ?_
            refine o_q _ rfl rfl rfl (v_assign rfl rfl) ?_
            refine o_nil ?_
            with_reducible refine r_then ?_
            refine r_ret ?_
            exact r_retv2 (Rd.tmp rfl rfl) (congrArg Value.bool (decide_eq_true (by exact ⟨by omega, by omega, by omega, fun j hj => hI0.2 j (by omega), fun j hj => hI1.2 j (by omega), fun j hj => hI2.2 j (by omega)⟩)).symm) SelMC.sel SubRC.sub
end Go.Proofs.Ytpndeonmmcaikaa.FootW


namespace Go.Proofs.Ytpndeonmmcaikaa.FootW
open Go.G Foot4
set_option maxRecDepth 1000000
attribute [local irreducible] G.ParO G.Fin
set_option maxHeartbeats 4000000 in
theorem Whole_v (a b c : Int) : FnV Try.prog 14 [.agg #[i64 a, i64 b, i64 c]] [] (.bool (decide (0 ≤ a ∧ 0 ≤ b ∧ 0 ≤ c))) := by
 refine FnV.intro Try.call14 Try.func14 rfl Try.ntmps14 rfl ?_
 intro W M Rf
 refine r_seq ?_
 refine r_region ?_
 refine o_boxA rfl rfl rfl rfl rfl (fun b1 => ?_)
 refine o_q _ rfl rfl rfl (v_assign rfl rfl) ?_
 refine o_nil ?_
 with_reducible refine r_then ?_
 refine r_seq ?_
 refine r_region ?_
 refine o_q _ rfl rfl rfl (v_indexAddrA rfl Try.underlying55 inf3 rfl rfl (by omega)) ?_
 refine o_q _ rfl rfl rfl (v_ld1 rfl Try.underlying3 rfl rfl rfl) ?_
 refine o_test rfl rfl rfl (v_geq rfl rfl rfl) (fun h5 => ?_) (fun h5 => ?_)
 all_goals
  refine o_q _ rfl rfl rfl (v_move rfl rfl) ?_
  first | refine o_gn rfl rfl rfl rfl ?_ | refine o_g _ rfl rfl rfl rfl (v_indexAddrA rfl Try.underlying55 inf3 rfl rfl (by omega)) ?_
  first | refine o_gn rfl rfl rfl rfl ?_ | refine o_g _ rfl rfl rfl rfl (v_ld1 rfl Try.underlying3 rfl rfl rfl) ?_
  first | refine o_gn rfl rfl rfl rfl ?_ | refine o_gtest rfl rfl rfl rfl (v_geq rfl rfl rfl) (fun h9 => ?_) (fun h9 => ?_)
  all_goals
   first | refine o_q _ rfl rfl rfl (v_pick_t rfl rfl rfl) ?_ | refine o_q _ rfl rfl rfl (v_pick_f rfl rfl rfl) ?_
   refine o_q _ rfl rfl rfl (v_move rfl rfl) ?_
   first | refine o_gn rfl rfl rfl rfl ?_ | refine o_g _ rfl rfl rfl rfl (v_indexAddrA rfl Try.underlying55 inf3 rfl rfl (by omega)) ?_
   first | refine o_gn rfl rfl rfl rfl ?_ | refine o_g _ rfl rfl rfl rfl (v_ld1 rfl Try.underlying3 rfl rfl rfl) ?_
   first | refine o_gn rfl rfl rfl rfl ?_ | refine o_gtest rfl rfl rfl rfl (v_geq rfl rfl rfl) (fun h14 => ?_) (fun h14 => ?_)
   all_goals
    first | refine o_q _ rfl rfl rfl (v_pick_t rfl rfl rfl) ?_ | refine o_q _ rfl rfl rfl (v_pick_f rfl rfl rfl) ?_
    refine o_q _ rfl rfl rfl (v_assign rfl rfl) ?_
    refine o_nil ?_
    with_reducible refine r_then ?_
    refine r_ret ?_
    first | exact r_retv2 (Rd.tmp rfl rfl) (congrArg Value.bool (decide_eq_true (by omega)).symm) SelMC.sel SubRC.sub | exact r_retv2 (Rd.tmp rfl rfl) (congrArg Value.bool (decide_eq_false (by omega)).symm) SelMC.sel SubRC.sub
end Go.Proofs.Ytpndeonmmcaikaa.FootW


namespace Go.Proofs.Ytpndeonmmcaikaa.FootW
open Go.G Foot4
set_option maxRecDepth 1000000
attribute [local irreducible] G.ParO G.Fin
end Go.Proofs.Ytpndeonmmcaikaa.FootW


namespace Go.Proofs.Ytpndeonmmcaikaa.FootW
open Go.G Foot4
set_option maxRecDepth 1000000
attribute [local irreducible] G.ParO G.Fin
end Go.Proofs.Ytpndeonmmcaikaa.FootW


namespace Foot4
open Go Go.G

/-- A plan's steps up to day d are done, from the k-th on. -/
def advF (p : T3) (d : Int) : Nat → Nat → Nat
  | 0, k => k
  | f + 1, k => if 0 ≤ p.at k ∧ p.at k ≤ d then advF p d f (k + 1) else k
def adv (p : T3) (d : Int) (k : Nat) : Nat := advF p d (3 - k) k
theorem adv_go {p : T3} {d : Int} {k : Nat} (h : k < 3 ∧ 0 ≤ p.at k ∧ p.at k ≤ d) : adv p d k = adv p d (k + 1) := by
  unfold adv
  rw [show 3 - k = (3 - (k + 1)) + 1 from by omega, advF, if_pos h.2]
theorem adv_stop {p : T3} {d : Int} {k : Nat} (h : ¬ (k < 3 ∧ 0 ≤ p.at k ∧ p.at k ≤ d)) : adv p d k = k := by
  unfold adv
  by_cases hk : k < 3
  · rw [show 3 - k = (3 - (k + 1)) + 1 from by omega, advF, if_neg (fun x => h ⟨hk, x⟩)]
  · rw [show 3 - k = 0 from by omega, advF]
theorem advF_le {p : T3} {d : Int} : ∀ f k, advF p d f k ≤ k + f
  | 0, k => Nat.le_refl k
  | f + 1, k => by
    have := advF_le (p := p) (d := d) f (k + 1)
    simp only [advF]
    split <;> omega
theorem adv_le {p : T3} {d : Int} {k : Nat} (h : k ≤ 3) : adv p d k ≤ 3 := by
  have := advF_le (p := p) (d := d) (3 - k) k
  unfold adv; omega
/-- How wet it is, and how many steps are done, as the program goes. -/
def wetS (sel : Int → Int → Int) (F : Work) (heap : Nat) (p : T3) : Nat → Int × Nat
  | 0 => (sel (F.heaps.getD heap default).lo (F.heaps.getD heap default).hi, 0)
  | d + 1 =>
    let s := wetS sel F heap p d
    let k := adv p d s.2
    if k = 3 then (s.1, 3) else (step s.1 (sel (F.rain.getD d default).lo (F.rain.getD d default).hi) (F.dr.at k), k)
def wetF (sel : Int → Int → Int) (F : Work) (heap : Nat) (p : T3) (d : Nat) : Int := (wetS sel F heap p d).1
theorem wetS_le (sel : Int → Int → Int) (F : Work) (heap : Nat) (p : T3) (d : Nat) : (wetS sel F heap p d).2 ≤ 3 := by
  induction d with
  | zero => simp [wetS]
  | succ d ih =>
    simp only [wetS]
    split
    · exact Nat.le_refl 3
    · exact adv_le ih
theorem adv_3 {p : T3} {d : Int} : adv p d 3 = 3 := adv_stop (by omega)
/-- All steps done: it stays. -/
theorem wetS_3 {sel : Int → Int → Int} {F : Work} {heap : Nat} {p : T3} {d : Nat} (h : (wetS sel F heap p d).2 = 3) : ∀ e, d ≤ e → wetS sel F heap p e = wetS sel F heap p d := by
  intro e he
  induction e with
  | zero => obtain rfl : d = 0 := by omega
            rfl
  | succ e ih =>
    by_cases h1 : d = e + 1
    · subst h1; rfl
    · have := ih (by omega)
      simp only [wetS, this, h, adv_3, if_true]
      exact Prod.ext rfl h.symm
theorem wetS_next {sel : Int → Int → Int} {F : Work} {heap : Nat} {p : T3} {d k : Nat} (hk : adv p d (wetS sel F heap p d).2 = k) (h : k ≠ 3) : wetS sel F heap p (d + 1) = (step (wetF sel F heap p d) (sel (F.rain.getD d default).lo (F.rain.getD d default).hi) (F.dr.at k), k) := by
  simp only [wetS, hk, h, if_false, wetF]
theorem wetS_end {sel : Int → Int → Int} {F : Work} {heap : Nat} {p : T3} {d : Nat} (hk : adv p d (wetS sel F heap p d).2 = 3) : ∀ e, d < e → wetF sel F heap p e = wetF sel F heap p d := by
  intro e he
  have h1 : wetS sel F heap p (d + 1) = (wetF sel F heap p d, 3) := by simp only [wetS, hk, if_true, wetF]
  have := wetS_3 (d := d + 1) (by rw [h1]) e (by omega)
  show (wetS sel F heap p e).1 = _
  rw [this, h1]
/-- One of the two truths. -/
structure Tr (P : Program) (name : String) where
  T : TypeId
  v : Value
  k : FuncId
  sel : Int → Int → Int
  hm : HasM P T name k
  hv : ∀ lo hi : Int, -1000 ≤ lo → lo ≤ 1000 → -1000 ≤ hi → hi ≤ 1000 → FnV P k [v, .agg #[i64 lo, i64 hi]] [] (i64 (sel lo hi))
  hs : ∀ lo hi, sel lo hi = lo ∨ sel lo hi = hi
abbrev Tr.i {P : Program} {name : String} (t : Tr P name) : Value := .iface t.T t.v
theorem wetS_bd {P : Program} {name : String} (t : Tr P name) {F : Work} (h : Bnd F) (heap : Nat) (p : T3) (d : Nat) : 0 ≤ wetF t.sel F heap p d ∧ wetF t.sel F heap p d ≤ 60 + 10 * d := by
  induction d with
  | zero =>
    have := h.heap heap
    rcases t.hs (F.heaps.getD heap default).lo (F.heaps.getD heap default).hi with e | e <;> simp only [wetF, wetS, e] <;> omega
  | succ d ih =>
    simp only [wetF, wetS]
    split
    · have := ih; unfold wetF at this; omega
    · have := h.rain d
      have hd := h.dr (adv p d (wetS t.sel F heap p d).2)
      unfold wetF at ih
      have hsel : 0 ≤ t.sel (F.rain.getD d default).lo (F.rain.getD d default).hi ∧ t.sel (F.rain.getD d default).lo (F.rain.getD d default).hi ≤ 10 := by
        rcases t.hs (F.rain.getD d default).lo (F.rain.getD d default).hi with e | e <;> rw [e] <;> omega
      have := step_bd ih.1 ih.2 hsel.1 hsel.2 hd.1
      show 0 ≤ step _ _ _ ∧ step _ _ _ ≤ _
      omega
def canF (sel : Int → Int → Int) (F : Work) (heap : Nat) (p : T3) (k : Nat) : Prop := p.at k < 0 ∨ wetF sel F heap p (p.at k).toNat ≤ F.lim.at k
instance (sel : Int → Int → Int) (F : Work) (heap : Nat) (p : T3) (k : Nat) : Decidable (canF sel F heap p k) := by unfold canF; infer_instance
def keptF (sel : Int → Int → Int) (F : Work) (heap : Nat) (p : T3) : Prop := canF sel F heap p 0 ∧ canF sel F heap p 1 ∧ canF sel F heap p 2
instance (sel : Int → Int → Int) (F : Work) (heap : Nat) (p : T3) : Decidable (keptF sel F heap p) := by unfold keptF; infer_instance
def capB : Value → Nat
  | .func _ _ cs => blk (cs.getD 0 undef)
  | _ => 0
theorem chk_ne {F : Work} {v : Bool} (h : ¬ GoodF F) : chk F v ≠ 0 := by unfold chk; rw [if_neg h]; decide
/-! ### what the program's functions answer -/
abbrev selD : Int → Int → Int := fun lo _ => lo
abbrev selW : Int → Int → Int := fun _ hi => hi
def keptP (F : Work) (heap : Nat) (p : T3) : Int := if keptF selW F heap p then 2 else if keptF selD F heap p then 1 else 0
def canP (F : Work) (x : Int) (p : T3) : Int × Int :=
  let e := chk F (decide ((0 ≤ x ∧ x ≤ (F.heaps.length : Int) - 1) ∧ IsPlan F.rain.length p))
  if e = 0 then (keptP F x.toNat p, 0) else (0, e)
theorem canP_of {F : Work} {x : Int} {p : T3} (v : Bool) (hv : decide ((0 ≤ x ∧ x ≤ (F.heaps.length : Int) - 1) ∧ IsPlan F.rain.length p) = v) (h : chk F v ≠ 0) : canP F x p = (0, chk F v) := by
  unfold canP; simp only [hv]; rw [if_neg h]
theorem canP_ok {F : Work} {x : Int} {p : T3} (hg : GoodF F) (hv : decide ((0 ≤ x ∧ x ≤ (F.heaps.length : Int) - 1) ∧ IsPlan F.rain.length p) = true) : canP F x p = (keptP F x.toNat p, 0) := by
  unfold canP; simp only [hv]; rw [if_pos (by simp [chk, hg])]
/-! ### all whole plans, one by one -/
theorem range'_pre {s k m : Nat} (h : k ≤ m) : List.range' s k <+: List.range' s m := by
  refine ⟨List.range' (s + k) (m - k), ?_⟩
  have := List.range'_append (s := s) (m := k) (n := m - k) (step := 1)
  rw [Nat.one_mul] at this
  rw [this, show k + (m - k) = m from by omega]
theorem range_pre {k m : Nat} (h : k ≤ m) : List.range k <+: List.range m := by
  rw [List.range_eq_range', List.range_eq_range']; exact range'_pre h
theorem flatMap_pre {α β : Type} {l m : List α} (f : α → List β) (h : l <+: m) : l.flatMap f <+: m.flatMap f := by
  obtain ⟨t, rfl⟩ := h
  exact ⟨t.flatMap f, by simp⟩
theorem whole_pre {n a b c : Nat} (ha : a < b) (hb : b < c) (hc : c < n) : wholeC n a b (c + 1) <+: whole n := by
  have h1 : wholeC n a b (c + 1) <+: wholeB n a (b + 1) := by
    rw [← wholeB_step ha]
    unfold wholeC
    exact (List.prefix_append_right_inj _).2 (((range'_pre (by omega)).map _))
  have h2 : wholeB n a (b + 1) <+: wholeA n (a + 1) := by
    rw [← wholeA_step]
    unfold wholeB
    exact (List.prefix_append_right_inj _).2 (flatMap_pre _ (range'_pre (by omega)))
  have h3 : wholeA n (a + 1) <+: whole n := flatMap_pre _ (range_pre (by omega))
  exact (h1.trans h2).trans h3
theorem whole_at {n a b c : Nat} (ha : a < b) (hb : b < c) (hc : c < n) : (whole n)[(wholeC n a b c).length]? = some ⟨a, b, c⟩ := by
  obtain ⟨t, ht⟩ := whole_pre ha hb hc
  rw [← ht, wholeC_step hb]
  simp
theorem whole_lt {n a b c : Nat} (ha : a < b) (hb : b < c) (hc : c < n) : (wholeC n a b c).length + 1 ≤ (whole n).length :=
  (List.getElem?_eq_some_iff.1 (whole_at ha hb hc)).1
theorem wholeC_len1 {n a b c : Nat} (hb : b < c) : (wholeC n a b c).length + 1 = (wholeC n a b (c + 1)).length := by rw [wholeC_step hb]; simp
/-- What an iterator of plans hands out. -/
def encP (p : T3) : List Value := [.agg #[i64 p.a, i64 p.b, i64 p.c]]
def keptB (sel : Int → Int → Int) (F : Work) (heap : Nat) (p : T3) : Bool := decide (keptF sel F heap p)
def sureF (sel : Int → Int → Int) (F : Work) (heap : Nat) : List T3 := (whole F.rain.length).filter (keptB sel F heap)
def sureT (sel : Int → Int → Int) (F : Work) (heap i : Nat) : List T3 := ((whole F.rain.length).take i).filter (keptB sel F heap)
theorem sureT_yes {sel : Int → Int → Int} {F : Work} {heap i : Nat} {x : T3} (hx : (whole F.rain.length)[i]? = some x) (h : keptF sel F heap x) : sureT sel F heap i ++ [x] = sureT sel F heap (i + 1) := by
  unfold sureT
  rw [List.take_add_one, hx]
  simp [keptB, h]
theorem sureT_no {sel : Int → Int → Int} {F : Work} {heap i : Nat} {x : T3} (hx : (whole F.rain.length)[i]? = some x) (h : ¬ keptF sel F heap x) : sureT sel F heap i = sureT sel F heap (i + 1) := by
  unfold sureT
  rw [List.take_add_one, hx]
  simp [keptB, h]
theorem sureT_all {sel : Int → Int → Int} {F : Work} {heap : Nat} : sureT sel F heap (whole F.rain.length).length = sureF sel F heap := by
  unfold sureT sureF; rw [List.take_length]
/-- The best of the first k, the first of several. -/
def best1 {α : Type} (bt : α → α → Bool) (z : α) (xs : List α) : Nat → α
  | 0 => z
  | k + 1 => if k = 0 ∨ bt (xs.getD k z) (best1 bt z xs k) = true then xs.getD k z else best1 bt z xs k
theorem best1_yes {α : Type} {bt : α → α → Bool} {z : α} {xs : List α} {k : Nat} (h : k = 0 ∨ bt (xs.getD k z) (best1 bt z xs k) = true) : best1 bt z xs (k + 1) = xs.getD k z := if_pos h
theorem best1_no {α : Type} {bt : α → α → Bool} {z : α} {xs : List α} {k : Nat} (h0 : k ≠ 0) (h : ¬ bt (xs.getD k z) (best1 bt z xs k) = true) : best1 bt z xs (k + 1) = best1 bt z xs k := if_neg (fun x => x.elim h0 h)
theorem whole_mem {n : Nat} {p : T3} (h : p ∈ whole n) : ∃ a b c : Nat, p = ⟨a, b, c⟩ ∧ a < b ∧ b < c ∧ c < n := by
  unfold whole at h
  obtain ⟨a, ha, h⟩ := List.mem_flatMap.1 h
  unfold bs3 at h
  obtain ⟨b, hb, h⟩ := List.mem_flatMap.1 h
  unfold cs3 at h
  obtain ⟨c, hc, rfl⟩ := List.mem_map.1 h
  simp only [List.mem_range'_1] at hb hc
  exact ⟨a, b, c, rfl, by omega, by omega, by omega⟩
theorem whole_days {n : Nat} {p : T3} (h : p ∈ whole n) : ∀ k, k < 3 → 0 ≤ p.at k ∧ p.at k ≤ (n : Int) - 1 := by
  obtain ⟨a, b, c, rfl, h1, h2, h3⟩ := whole_mem h
  intro k hk
  obtain rfl | rfl | rfl : k = 0 ∨ k = 1 ∨ k = 2 := by omega
  · show (0 : Int) ≤ a ∧ (a : Int) ≤ n - 1
    omega
  · show (0 : Int) ≤ b ∧ (b : Int) ≤ n - 1
    omega
  · show (0 : Int) ≤ c ∧ (c : Int) ≤ n - 1
    omega
theorem whole_le {n : Nat} (hn : n ≤ 8) : (whole n).length ≤ 1000 := by
  have := wholeC_len (n := n) (a := n) (b := n) (c := n) hn (by omega) (by omega) (by omega)
  unfold wholeC wholeB at this
  simp only [List.length_append] at this
  show (wholeA n n).length ≤ 1000
  omega
theorem sureF_le {sel : Int → Int → Int} {F : Work} {heap : Nat} (h : F.rain.length ≤ 8) : (sureF sel F heap).length ≤ 1000 := by
  have h1 := List.length_filter_le (keptB sel F heap) (whole F.rain.length)
  have h2 := whole_le h
  unfold sureF; omega
theorem sureT_le {sel : Int → Int → Int} {F : Work} {heap i : Nat} (h : F.rain.length ≤ 8) : (sureT sel F heap i).length ≤ 1000 := by
  unfold sureT
  have h1 := List.length_filter_le (keptB sel F heap) ((whole F.rain.length).take i)
  have h2 := whole_le h
  have h3 := List.length_take_le' i (whole F.rain.length)
  omega
end Foot4


namespace Go.Proofs.Ytpndeonmmcaikaa.FootW
open Go.G Foot4
set_option maxRecDepth 1000000
attribute [local irreducible] G.ParO G.Fin
set_option maxHeartbeats 4000000 in
theorem within_v (a b c : Int) : FnV Try.prog 57 [i64 a, i64 b, i64 c] [] (.bool (decide (b ≤ a ∧ a ≤ c))) := by
 refine FnV.intro Try.call57 Try.func57 rfl Try.ntmps57 rfl ?_
 intro W M Rf
 refine r_seq ?_
 refine r_region ?_
 refine o_q _ rfl rfl rfl (v_assign rfl rfl) ?_
 refine o_nil ?_
 with_reducible refine r_then ?_
 refine r_seq ?_
 refine r_region ?_
 refine o_q _ rfl rfl rfl (v_move rfl rfl) ?_
 refine o_q _ rfl rfl rfl (v_move rfl rfl) ?_
 refine o_test rfl rfl rfl (v_leq rfl rfl rfl) (fun h9 => ?_) (fun h9 => ?_)
 all_goals
  refine o_q _ rfl rfl rfl (v_move rfl rfl) ?_
  first | refine o_gn rfl rfl rfl rfl ?_ | refine o_g _ rfl rfl rfl rfl (v_move rfl rfl) ?_
  first | refine o_gn rfl rfl rfl rfl ?_ | refine o_g _ rfl rfl rfl rfl (v_move rfl rfl) ?_
  first | refine o_gn rfl rfl rfl rfl ?_ | refine o_gtest rfl rfl rfl rfl (v_leq rfl rfl rfl) (fun h13 => ?_) (fun h13 => ?_)
  all_goals
   first | refine o_q _ rfl rfl rfl (v_pick_t rfl rfl rfl) ?_ | refine o_q _ rfl rfl rfl (v_pick_f rfl rfl rfl) ?_
   refine o_q _ rfl rfl rfl (v_assign rfl rfl) ?_
   refine o_nil ?_
   with_reducible refine r_then ?_
   refine r_ret ?_
   first | exact r_retv2 (Rd.tmp rfl rfl) (congrArg Value.bool (decide_eq_true (by omega)).symm) SelMC.sel SubRC.sub | exact r_retv2 (Rd.tmp rfl rfl) (congrArg Value.bool (decide_eq_false (by omega)).symm) SelMC.sel SubRC.sub
set_option maxHeartbeats 4000000 in
theorem isSpan_v (lo hi a b : Int) : FnV Try.prog 59 [.agg #[i64 lo, i64 hi], i64 a, i64 b] [] (.bool (decide (a ≤ lo ∧ lo ≤ hi ∧ hi ≤ b))) := by
 refine FnV.intro Try.call59 Try.func59 rfl Try.ntmps59 rfl ?_
 intro W M Rf
 refine r_seq ?_
 refine r_region ?_
 refine o_boxA rfl rfl rfl rfl rfl (fun b3 => ?_)
 refine o_q _ rfl rfl rfl (v_assign rfl rfl) ?_
 refine o_nil ?_
 with_reducible refine r_then ?_
 refine r_seq ?_
 refine r_region ?_
 refine o_q _ rfl rfl rfl (v_move rfl rfl) ?_
 refine o_q _ rfl rfl rfl (v_fieldAddr rfl Try.underlying42 inf3 rfl rfl rfl rfl) ?_
 refine o_q _ rfl rfl rfl (v_ld1 rfl Try.underlying3 rfl rfl rfl) ?_
 refine o_test rfl rfl rfl (v_leq rfl rfl rfl) (fun h10 => ?_) (fun h10 => ?_)
 all_goals
  refine o_q _ rfl rfl rfl (v_move rfl rfl) ?_
  first | refine o_gn rfl rfl rfl rfl ?_ | refine o_g _ rfl rfl rfl rfl (v_fieldAddr rfl Try.underlying42 inf3 rfl rfl rfl rfl) ?_
  first | refine o_gn rfl rfl rfl rfl ?_ | refine o_g _ rfl rfl rfl rfl (v_ld1 rfl Try.underlying3 rfl rfl rfl) ?_
  first | refine o_gn rfl rfl rfl rfl ?_ | refine o_g _ rfl rfl rfl rfl (v_fieldAddr rfl Try.underlying42 inf3 rfl rfl rfl rfl) ?_
  first | refine o_gn rfl rfl rfl rfl ?_ | refine o_g _ rfl rfl rfl rfl (v_ld1 rfl Try.underlying3 rfl rfl rfl) ?_
  first | refine o_gn rfl rfl rfl rfl ?_ | refine o_gtest rfl rfl rfl rfl (v_leq rfl rfl rfl) (fun h16 => ?_) (fun h16 => ?_)
  all_goals
   first | refine o_q _ rfl rfl rfl (v_pick_t rfl rfl rfl) ?_ | refine o_q _ rfl rfl rfl (v_pick_f rfl rfl rfl) ?_
   refine o_q _ rfl rfl rfl (v_move rfl rfl) ?_
   first | refine o_gn rfl rfl rfl rfl ?_ | refine o_g _ rfl rfl rfl rfl (v_fieldAddr rfl Try.underlying42 inf3 rfl rfl rfl rfl) ?_
   first | refine o_gn rfl rfl rfl rfl ?_ | refine o_g _ rfl rfl rfl rfl (v_ld1 rfl Try.underlying3 rfl rfl rfl) ?_
   first | refine o_gn rfl rfl rfl rfl ?_ | refine o_g _ rfl rfl rfl rfl (v_move rfl rfl) ?_
   first | refine o_gn rfl rfl rfl rfl ?_ | refine o_gtest rfl rfl rfl rfl (v_leq rfl rfl rfl) (fun h22 => ?_) (fun h22 => ?_)
   all_goals
    first | refine o_q _ rfl rfl rfl (v_pick_t rfl rfl rfl) ?_ | refine o_q _ rfl rfl rfl (v_pick_f rfl rfl rfl) ?_
    refine o_q _ rfl rfl rfl (v_assign rfl rfl) ?_
    refine o_nil ?_
    with_reducible refine r_then ?_
    refine r_ret ?_
    first | exact r_retv2 (Rd.tmp rfl rfl) (congrArg Value.bool (decide_eq_true (by omega)).symm) SelMC.sel SubRC.sub | exact r_retv2 (Rd.tmp rfl rfl) (congrArg Value.bool (decide_eq_false (by omega)).symm) SelMC.sel SubRC.sub
set_option maxHeartbeats 4000000 in
theorem open1_v (s : Span) : FnV Try.prog 58 [.agg #[i64 s.lo, i64 s.hi]] [] (.bool (decide (¬ SpanOk s 10))) := by
 refine FnV.intro Try.call58 Try.func58 rfl Try.ntmps58 rfl ?_
 intro W M Rf
 refine r_seq ?_
 refine r_region ?_
 refine o_boxA rfl rfl rfl rfl rfl (fun b1 => ?_)
 refine o_q _ rfl rfl rfl (v_assign rfl rfl) ?_
 refine o_nil ?_
 with_reducible refine r_then ?_
 refine r_seq ?_
 refine r_region ?_
 refine o_q _ rfl rfl rfl (v_ldW rfl Try.underlying42 rfl inf42 rfl rfl) ?_
 refine o_test rfl rfl rfl (OpQ.fn (isSpan_v _ _ _ _) rfl rfl SubRC.sub) (fun h4 => ?_) (fun h4 => ?_)
 all_goals
  refine o_q _ rfl rfl rfl (v_not rfl rfl) ?_
  refine o_q _ rfl rfl rfl (v_assign rfl rfl) ?_
  refine o_nil ?_
  with_reducible refine r_then ?_
  refine r_ret ?_
  exact r_retv2 (Rd.tmp rfl rfl) (congrArg Value.bool (by simp [SpanOk, *])) SelMC.sel SubRC.sub
set_option maxHeartbeats 4000000 in
theorem spans_r (p : Span → Prop) [DecidablePred p] (xs : List Span) (oa : Option Addr) (c : Nat) (fv : FuncId) (caps : List Value) (Rs : List Fact) (hl : xs.length ≤ 1000) (hf : ∀ k, k < xs.length → FnV Try.prog fv (.agg #[i64 (xs.getD k default).lo, i64 (xs.getD k default).hi] :: caps) Rs (.bool (decide (p (xs.getD k default))))) : FnR Try.prog 71 [.slice oa xs.length c, .func (.func fv) #[] caps.toArray] (rowD oa 2 (encS) xs :: Rs) (fun v => (v = i64 (-1) ∧ ∀ j, j < xs.length → ¬ p (xs.getD j default)) ∨ ∃ k : Nat, v = i64 k ∧ k < xs.length ∧ p (xs.getD k default)) (fun _ => []) := by
 refine FnR.intro Try.call71 Try.func71 rfl Try.ntmps71 rfl ?_
 intro W M Rf
 refine r_seq ?_
 refine r_region ?_
 refine o_q _ rfl rfl rfl (v_assign rfl rfl) ?_
 refine o_nil ?_
 with_reducible refine r_then ?_
 refine r_seq ?_
 refine r_seq ?_
 refine r_region ?_
 refine o_q _ rfl rfl rfl (v_move rfl rfl) ?_
 refine o_q _ rfl rfl rfl (v_len rfl rfl Try.underlying22 rfl) ?_
 refine o_q _ rfl rfl rfl (v_move rfl rfl) ?_
 refine o_nil ?_
 with_reducible refine r_then ?_
 refine r_block ?_
 refine r_loop (ι := Nat) (fun k => k ≤ xs.length ∧ ∀ j, j < k → ¬ p (xs.getD j default)) (fun k => [(0, .slice oa xs.length c), (1, .func (.func fv) #[] caps.toArray), (7, i64 xs.length), (8, i64 k)]) (fun k => M) (fun k => (rowD oa 2 (encS) xs :: Rs) ++ Rf) (fun k => xs.length - k) 0 ?_ ?_ ?_
 ·
  exact r_here (by repeat (first | exact FSub.nil | refine FSub.cons rfl ?_)) SelMC.sel SubRC.sub
 ·
  exact ⟨by omega, fun j hj => absurd hj (by omega)⟩
 ·
  rintro k hI0
  refine r_seq ?_
  refine r_region ?_
  refine o_q _ rfl rfl rfl (v_lss rfl rfl rfl) ?_
  refine o_nil ?_
  with_reducible refine r_then ?_
  refine r_seq ?_
  refine r_condd rfl (fun hc9 => ?_) (fun hc9 => ?_)
  ·
   refine r_skip ?_
   with_reducible refine r_then ?_
   refine r_seq ?_
   refine r_block ?_
   refine r_seq ?_
   refine r_region ?_
   refine o_q _ rfl rfl rfl (v_move rfl rfl) ?_
   refine o_q _ rfl rfl rfl (v_assign rfl rfl) ?_
   refine o_nil ?_
   with_reducible refine r_then ?_
   refine r_seq ?_
   refine r_region ?_
   refine o_q _ rfl rfl rfl (v_move rfl rfl) ?_
   refine o_q _ rfl rfl rfl (v_move rfl rfl) ?_
   refine o_q _ rfl rfl rfl (v_move rfl rfl) ?_
   refine o_q _ rfl rfl rfl (v_indexAddrSn rfl Try.underlying22 inf42 rfl rfl rfl (by omega) rfl) ?_
   refine o_q _ rfl rfl rfl (v_loadEN rfl Try.underlying42 rfl inf42 rfl (by omega) rfl rfl rfl) ?_
   refine o_test rfl rfl rfl (OpQ.call (hf k (by omega)) rfl [] caps rfl rfl rfl SubRC.sub) (fun h16 => ?_) (fun h16 => ?_)
   all_goals
    refine o_nil ?_
    with_reducible refine r_then ?_
    refine r_cond rfl (fun hc16 => ?_) (fun hc16 => ?_)
    ·
     first
     | (exfalso; revert hc16; decide)
     |
      skip
      refine r_seq ?_
      refine r_region ?_
      refine o_q _ rfl rfl rfl (v_move rfl rfl) ?_
      refine o_q _ rfl rfl rfl (v_assign rfl rfl) ?_
      refine o_nil ?_
      with_reducible refine r_then ?_
      refine r_ret ?_
      with_reducible refine r_in_ret ?_; refine r_then_ret ?_; refine r_then_ret ?_; refine r_in_ret ?_; refine r_then_ret ?_
      exact r_retr (Rd.tmp rfl rfl) (Or.inr ⟨k, rfl, by omega, by assumption⟩) SelMC.sel SubRC.sub
    ·
     first
     | (exfalso; revert hc16; decide)
     |
      skip
      refine r_skip ?_
      with_reducible refine r_in_normal ?_; refine r_then ?_
      refine r_region ?_
      refine o_q _ rfl rfl rfl (v_add rfl rfl rfl (by omega)) ?_
      refine o_q _ rfl rfl rfl (v_move rfl rfl) ?_
      refine o_nil ?_
      with_reducible refine r_then ?_
      refine r_next (k + 1) ?_ ?_ ?_
      ·
       exact r_here (by repeat (first | exact FSub.nil | refine FSub.cons rfl ?_)) SelMC.sel SubRC.sub
      ·
       exact ⟨by omega, Foot4.all_step hI0.2 (by assumption)⟩
      ·
       omega
  ·
   refine r_exit ?_
   with_reducible refine r_then_exit ?_; refine r_then_exit ?_; refine r_in_here ?_; refine r_then ?_
   refine r_seq ?_
   refine r_region ?_
   refine o_q _ rfl rfl rfl (v_assign rfl rfl) ?_
   refine o_nil ?_
   with_reducible refine r_then ?_
   refine r_ret ?_
   exact r_retr (Rd.tmp rfl rfl) (Or.inl ⟨rfl, fun j hj => hI0.2 j (by omega)⟩) SelMC.sel SubRC.sub
set_option maxHeartbeats 4000000 in
theorem spans_c (p : Span → Prop) [DecidablePred p] (xs : List Span) (oa : Option Addr) (c : Nat) (fv : FuncId) (caps : List Value) (Rs : List Fact) (hl : xs.length ≤ 1000) (hf : ∀ k, k < xs.length → FnV Try.prog fv (.agg #[i64 (xs.getD k default).lo, i64 (xs.getD k default).hi] :: caps) Rs (.bool (decide (p (xs.getD k default))))) : FnV Try.prog 49 [.slice oa xs.length c, .func (.func fv) #[] caps.toArray] (rowD oa 2 (encS) xs :: Rs) (.bool (decide (∃ k, k < xs.length ∧ p (xs.getD k default)))) := by
 refine FnV.intro Try.call49 Try.func49 rfl Try.ntmps49 rfl ?_
 intro W M Rf
 refine r_seq ?_
 refine r_region ?_
 refine o_q _ rfl rfl rfl (v_assign rfl rfl) ?_
 refine o_nil ?_
 with_reducible refine r_then ?_
 refine r_seq ?_
 refine r_region ?_
 refine o_q _ rfl rfl rfl (v_move rfl rfl) ?_
 refine o_q _ rfl rfl rfl (v_move rfl rfl) ?_
 refine o_fn (spans_r p xs oa c fv caps Rs hl hf) rfl rfl rfl rfl rfl SubRC.sub (fun v7 hv7 => ?_)
 obtain ⟨rfl, hn⟩ | ⟨k, rfl, hk, hp⟩ := hv7
 all_goals
  refine o_q _ rfl rfl rfl (v_geq rfl rfl rfl) ?_
  refine o_q _ rfl rfl rfl (v_assign rfl rfl) ?_
  refine o_nil ?_
  with_reducible refine r_then ?_
  refine r_ret ?_
  first
  | exact r_retv2 (Rd.tmp rfl rfl) (congrArg Value.bool ((decide_eq_false (by omega)).trans (decide_eq_false (fun ⟨k, hk, hp⟩ => hn k hk hp)).symm)) SelMC.sel SubRC.sub
  | exact r_retv2 (Rd.tmp rfl rfl) (congrArg Value.bool ((decide_eq_true (by omega)).trans (decide_eq_true ⟨k, hk, hp⟩).symm)) SelMC.sel SubRC.sub
set_option maxHeartbeats 4000000 in
theorem ints_r (p : Int → Prop) [DecidablePred p] (xs : List Int) (oa : Option Addr) (c : Nat) (fv : FuncId) (caps : List Value) (Rs : List Fact) (hl : xs.length ≤ 1000) (hf : ∀ k, k < xs.length → FnV Try.prog fv (i64 (xs.getD k default) :: caps) Rs (.bool (decide (p (xs.getD k default))))) : FnR Try.prog 74 [.slice oa xs.length c, .func (.func fv) #[] caps.toArray] (rowD oa 1 (fun n : Int => [i64 n]) xs :: Rs) (fun v => (v = i64 (-1) ∧ ∀ j, j < xs.length → ¬ p (xs.getD j default)) ∨ ∃ k : Nat, v = i64 k ∧ k < xs.length ∧ p (xs.getD k default)) (fun _ => []) := by
 refine FnR.intro Try.call74 Try.func74 rfl Try.ntmps74 rfl ?_
 intro W M Rf
 refine r_seq ?_
 refine r_region ?_
 refine o_q _ rfl rfl rfl (v_assign rfl rfl) ?_
 refine o_nil ?_
 with_reducible refine r_then ?_
 refine r_seq ?_
 refine r_seq ?_
 refine r_region ?_
 refine o_q _ rfl rfl rfl (v_move rfl rfl) ?_
 refine o_q _ rfl rfl rfl (v_len rfl rfl Try.underlying33 rfl) ?_
 refine o_q _ rfl rfl rfl (v_move rfl rfl) ?_
 refine o_nil ?_
 with_reducible refine r_then ?_
 refine r_block ?_
 refine r_loop (ι := Nat) (fun k => k ≤ xs.length ∧ ∀ j, j < k → ¬ p (xs.getD j default)) (fun k => [(0, .slice oa xs.length c), (1, .func (.func fv) #[] caps.toArray), (7, i64 xs.length), (8, i64 k)]) (fun k => M) (fun k => (rowD oa 1 (fun n : Int => [i64 n]) xs :: Rs) ++ Rf) (fun k => xs.length - k) 0 ?_ ?_ ?_
 ·
  exact r_here (by repeat (first | exact FSub.nil | refine FSub.cons rfl ?_)) SelMC.sel SubRC.sub
 ·
  exact ⟨by omega, fun j hj => absurd hj (by omega)⟩
 ·
  rintro k hI0
  refine r_seq ?_
  refine r_region ?_
  refine o_q _ rfl rfl rfl (v_lss rfl rfl rfl) ?_
  refine o_nil ?_
  with_reducible refine r_then ?_
  refine r_seq ?_
  refine r_condd rfl (fun hc9 => ?_) (fun hc9 => ?_)
  ·
   refine r_skip ?_
   with_reducible refine r_then ?_
   refine r_seq ?_
   refine r_block ?_
   refine r_seq ?_
   refine r_region ?_
   refine o_q _ rfl rfl rfl (v_move rfl rfl) ?_
   refine o_q _ rfl rfl rfl (v_assign rfl rfl) ?_
   refine o_nil ?_
   with_reducible refine r_then ?_
   refine r_seq ?_
   refine r_region ?_
   refine o_q _ rfl rfl rfl (v_move rfl rfl) ?_
   refine o_q _ rfl rfl rfl (v_move rfl rfl) ?_
   refine o_q _ rfl rfl rfl (v_move rfl rfl) ?_
   refine o_q _ rfl rfl rfl (v_indexAddrSn rfl Try.underlying33 inf3 rfl rfl rfl (by omega) rfl) ?_
   refine o_q _ rfl rfl rfl (v_loadE1 rfl Try.underlying3 rfl rfl (by omega) rfl rfl) ?_
   refine o_test rfl rfl rfl (OpQ.call (hf k (by omega)) rfl [] caps rfl rfl rfl SubRC.sub) (fun h16 => ?_) (fun h16 => ?_)
   all_goals
    refine o_nil ?_
    with_reducible refine r_then ?_
    refine r_cond rfl (fun hc16 => ?_) (fun hc16 => ?_)
    ·
     first
     | (exfalso; revert hc16; decide)
     |
      skip
      refine r_seq ?_
      refine r_region ?_
      refine o_q _ rfl rfl rfl (v_move rfl rfl) ?_
      refine o_q _ rfl rfl rfl (v_assign rfl rfl) ?_
      refine o_nil ?_
      with_reducible refine r_then ?_
      refine r_ret ?_
      with_reducible refine r_in_ret ?_; refine r_then_ret ?_; refine r_then_ret ?_; refine r_in_ret ?_; refine r_then_ret ?_
      exact r_retr (Rd.tmp rfl rfl) (Or.inr ⟨k, rfl, by omega, by assumption⟩) SelMC.sel SubRC.sub
    ·
     first
     | (exfalso; revert hc16; decide)
     |
      skip
      refine r_skip ?_
      with_reducible refine r_in_normal ?_; refine r_then ?_
      refine r_region ?_
      refine o_q _ rfl rfl rfl (v_add rfl rfl rfl (by omega)) ?_
      refine o_q _ rfl rfl rfl (v_move rfl rfl) ?_
      refine o_nil ?_
      with_reducible refine r_then ?_
      refine r_next (k + 1) ?_ ?_ ?_
      ·
       exact r_here (by repeat (first | exact FSub.nil | refine FSub.cons rfl ?_)) SelMC.sel SubRC.sub
      ·
       exact ⟨by omega, Foot4.all_step hI0.2 (by assumption)⟩
      ·
       omega
  ·
   refine r_exit ?_
   with_reducible refine r_then_exit ?_; refine r_then_exit ?_; refine r_in_here ?_; refine r_then ?_
   refine r_seq ?_
   refine r_region ?_
   refine o_q _ rfl rfl rfl (v_assign rfl rfl) ?_
   refine o_nil ?_
   with_reducible refine r_then ?_
   refine r_ret ?_
   exact r_retr (Rd.tmp rfl rfl) (Or.inl ⟨rfl, fun j hj => hI0.2 j (by omega)⟩) SelMC.sel SubRC.sub
set_option maxHeartbeats 4000000 in
theorem ints_c (p : Int → Prop) [DecidablePred p] (xs : List Int) (oa : Option Addr) (c : Nat) (fv : FuncId) (caps : List Value) (Rs : List Fact) (hl : xs.length ≤ 1000) (hf : ∀ k, k < xs.length → FnV Try.prog fv (i64 (xs.getD k default) :: caps) Rs (.bool (decide (p (xs.getD k default))))) : FnV Try.prog 61 [.slice oa xs.length c, .func (.func fv) #[] caps.toArray] (rowD oa 1 (fun n : Int => [i64 n]) xs :: Rs) (.bool (decide (∃ k, k < xs.length ∧ p (xs.getD k default)))) := by
 refine FnV.intro Try.call61 Try.func61 rfl Try.ntmps61 rfl ?_
 intro W M Rf
 refine r_seq ?_
 refine r_region ?_
 refine o_q _ rfl rfl rfl (v_assign rfl rfl) ?_
 refine o_nil ?_
 with_reducible refine r_then ?_
 refine r_seq ?_
 refine r_region ?_
 refine o_q _ rfl rfl rfl (v_move rfl rfl) ?_
 refine o_q _ rfl rfl rfl (v_move rfl rfl) ?_
 refine o_fn (ints_r p xs oa c fv caps Rs hl hf) rfl rfl rfl rfl rfl SubRC.sub (fun v7 hv7 => ?_)
 obtain ⟨rfl, hn⟩ | ⟨k, rfl, hk, hp⟩ := hv7
 all_goals
  refine o_q _ rfl rfl rfl (v_geq rfl rfl rfl) ?_
  refine o_q _ rfl rfl rfl (v_assign rfl rfl) ?_
  refine o_nil ?_
  with_reducible refine r_then ?_
  refine r_ret ?_
  first
  | exact r_retv2 (Rd.tmp rfl rfl) (congrArg Value.bool ((decide_eq_false (by omega)).trans (decide_eq_false (fun ⟨k, hk, hp⟩ => hn k hk hp)).symm)) SelMC.sel SubRC.sub
  | exact r_retv2 (Rd.tmp rfl rfl) (congrArg Value.bool ((decide_eq_true (by omega)).trans (decide_eq_true ⟨k, hk, hp⟩).symm)) SelMC.sel SubRC.sub
end Go.Proofs.Ytpndeonmmcaikaa.FootW


set_option linter.unusedVariables false
set_option linter.unusedSimpArgs false
namespace Go.G
variable {P : Program} {W : World} {n : Nat} {D : List Deferred} {L : Tm} {M : List Res} {R : List Fact} {Q : Exit → Act → World → Prop} {o : Oper}
/-- An owned slice, or an empty one without room at any place. -/
def ownZ {α : Type} (v : Value) (T : TypeId) (sz : Nat) (enc : α → List Value) (xs : List α) : Res := fun s => ((∃ oa, v = .slice oa 0 0) ∧ xs = [] ∧ s = []) ∨ ownL v T sz enc xs s
theorem flat_len {α : Type} {enc : α → List Value} {sz : Nat} (henc : ∀ x, (enc x).length = sz) : ∀ xs : List α, (xs.flatMap enc).length = xs.length * sz
  | [] => by simp
  | x :: r => by rw [List.flatMap_cons, List.length_append, henc, flat_len henc r, List.length_cons, Nat.add_mul]; omega
/-- A new row that holds some cells, as an owned slice. -/
theorem St.newOwn {α : Type} {enc : α → List Value} {sz : Nat} {w : World} {e : TypeId} {i : TypeInfo} {z : Value} (hsz : i.size = sz) (hzs : z.cells.size = sz) (henc : ∀ x, (enc x).length = sz) (xs : List α) {old : Nat} (h63 : xs.length ≤ maxLen) (hold : old < xs.length) (h : St W M R w) {cs : Array Value} (hcs : cs.toList = xs.flatMap enc) :
    St W (ownL (.slice (some ⟨w.heap.size, 0, none⟩) xs.length (grownCap w xs.length old e)) e sz enc xs :: M) R (w.drew.alloc (.cells (cs ++ Builtin.zeroCells z.cells (grownCap w xs.length old e - xs.length)) e)) := by
  have hge := grownCap_ge w xs.length old e
  have hcm := grownCap_le_maxLen w xs.length old e h63
  have hd : St W M R w.drew := h.heap rfl rfl rfl rfl
  have hp := hd.push (.cells (cs ++ Builtin.zeroCells z.cells (grownCap w xs.length old e - xs.length)) e)
  have hl := flat_len henc xs
  have hcl : cs.size = xs.length * sz := by rw [← hl, ← hcs]; simp
  refine hp.replace Upd.here rfl rfl rfl ?_
  intro s' hs' hO'
  refine ⟨s', ⟨hl, .inr ⟨w.heap.size, grownCap w xs.length old e, _, rfl, hge, hcm, ?_, ?_, hs'⟩⟩, hO', fun b hb => .inl hb, fun _ _ _ => rfl⟩
  · simp only [Array.size_append, size_zeroCells, hzs, hcl, ← Nat.add_mul]
    congr 1; omega
  · simp only [Array.toList_append, hcs]
    rw [← hl]
    exact List.take_left
theorem St.rowCells {α : Type} {enc : α → List Value} {sz : Nat} {w : World} {oa : Option Addr} {ys : List α} (h : St W M R w) (hm : rowD oa sz enc ys ∈ R) (henc : ∀ x, (enc x).length = sz) (hne : 0 < ys.length) : ∃ b off, oa = some ⟨b, off, none⟩ ∧ ∀ j u, (ys.flatMap enc)[j]? = some u → w.cell? ((⟨b, off, none⟩ : Addr).add j) = some u := by
  obtain ⟨b2, off, rfl, hc⟩ := h.row hm hne
  refine ⟨b2, off, rfl, fun j u hu => ?_⟩
  have hj : j < ys.length * sz := by rw [← flat_len henc ys]; exact (List.getElem?_eq_some_iff.1 hu).1
  have hpos : 0 < sz := Nat.pos_of_ne_zero fun h => by rw [h] at hj; simp at hj
  have hlt : j % sz < sz := Nat.mod_lt _ hpos
  have hdiv : j / sz < ys.length := Nat.div_lt_of_lt_mul (by rw [Nat.mul_comm]; exact hj)
  have hkk : j = (j / sz) * sz + j % sz := by rw [Nat.mul_comm]; exact (Nat.div_add_mod j sz).symm
  have e1 := flat_at henc ys _ _ hdiv hlt
  rw [← hkk, hu] at e1
  rw [add_at]
  have e2 := hc _ _ hdiv hlt
  rw [Nat.add_assoc, ← hkk] at e2
  rw [e2, ← e1]
/-- 'append([]T{}, xs...)'. -/
theorem run_appN {α : Type} {enc : α → List Value} {sz : Nat} {w : World} {t ty e : TypeId} {i : TypeInfo} {z : Value} {ys : List α} {oa : Option Addr} {c b : Nat} (h : St W M R w) (hm : rowD oa sz enc ys ∈ R) (henc : ∀ x, (enc x).length = sz) (ht : P.underlying t = some (.slice e)) (hi : P.info? e = some i) (hz : i.zero = some z) (hsz : i.size = sz) (hzs : z.cells.size = sz)
    (hbd : ys.length ≤ 1000000 ∧ i.bytes ≤ 1000000) : ∃ v' w', (Builtin.append_ #[t, t] ty #[.slice (some ⟨b, 0, none⟩) 0 0, .slice oa ys.length c]).run P w = .ok v' w' ∧ St W (ownZ v' e sz enc ys :: M) R w' := by
  subst hsz
  by_cases hy : ys = []
  · subst hy
    refine ⟨.slice (some ⟨b, 0, none⟩) 0 0, w, ?_, ?_⟩
    · cases oa <;> simp [Builtin.append_, run_underlying ht, sizeOf, typeInfo, hi, Builtin.lenOf, Builtin.firstCells, loadCells, loadCellsFrom, storeCells]
    · obtain ⟨s, hS, hO, hR⟩ := h.mem
      exact ⟨h.os, h.tape, h.output, s, ⟨[], s, rfl, .inl ⟨⟨_, rfl⟩, rfl, rfl⟩, hS⟩, hO, hR⟩
  · have hne : 0 < ys.length := List.length_pos_iff.2 hy
    obtain ⟨b2, off, rfl, hnews⟩ := h.rowCells hm henc hne
    have hl := flat_len henc ys
    have hby : ys.length * i.bytes ≤ 140737488355328 := by
      have : ys.length * i.bytes ≤ 1000000 * 1000000 := Nat.mul_le_mul hbd.1 hbd.2
      omega
    have hr := run_append_grow (P := P) w t ty e i z ht hi hz ⟨b, 0, none⟩ 0 0 [] (by simp) (by simp) ⟨b2, off, none⟩ ys.length c (ys.flatMap enc) hl hnews (by omega) (by omega) (growslice_fits (by omega) (by rw [Nat.zero_add]; exact hby))
    have hgr := h.newOwn (e := e) (z := z) (i := i) rfl hzs henc ys (old := 0) (by simp only [maxLen]; omega) hne (cs := (ys.flatMap enc).toArray) (by simp)
    simp only [Nat.zero_add, List.nil_append] at hr
    refine ⟨_, _, hr, ?_⟩
    refine St.replace (r := ownL (.slice (some ⟨w.heap.size, 0, none⟩) ys.length (grownCap w ys.length 0 e)) e i.size enc ys) ?_ Upd.here rfl rfl rfl (fun s' hs' hO' => ⟨s', .inr hs', hO', fun b hb => .inl hb, fun _ _ _ => rfl⟩)
    simpa using hgr
/-- An empty literal's slice. -/
def isL0 (v : Value) : Prop := ∃ b, v = .slice (some ⟨b, 0, none⟩) 0 0
abbrev Spc.l0 : Spc := Spc.g isL0 (fun _ => []) (fun _ => [])
theorem run_lit0 {w : World} {t e : TypeId} {i : TypeInfo} {ρ : Operand → Value} (ho : o.op = .buildSlice t 0 #[]) (ht : P.underlying t = some (.slice e)) (hi : P.info? e = some i) : (execOp ρ o).run P w = .ok (.value (.slice (some ⟨w.heap.size, 0, none⟩) 0 0)) (w.alloc (.cells #[] e)) := by
  simp only [execOp, ho, Instr.buildSlice, Sem.run_bind, run_underlying ht, run_sizeOf' hi, Result.andThen_ok]
  simp [newRow, newObj, Sem.run, Instr.fill]
  congr 2
  exact Array.eq_empty_of_size_eq_zero (by simp)
theorem p_lit0 {ops : Array Oper} {K : List Spc → Prop} {rest : List Oper} {acc : List Spc} {t e : TypeId} {i : TypeInfo} {d : Nat} (ho : o.op = .buildSlice t 0 #[]) (ht : P.underlying t = some (.slice e)) (hi : P.info? e = some i) (hg : o.guard = none) (hdst : o.dst = some d) (hd : Nat.blt d n = true)
    (hr : ParO P W n M R ops K rest (acc ++ [Spc.l0]) L) : ParO P W n M R ops K (o :: rest) acc L := by
  refine ⟨Spc.l0, by simp [hdst, hd], .inl ⟨rfl, .inl ⟨.inl hg, ?_⟩⟩, by simpa [addL, Spc.g] using hr⟩
  intro Mx Rx a w g1 g3
  have g3 : St W (Mx ++ M) (Rx ++ R) w := g3
  rw [run_lit0 ho ht hi]
  exact ⟨⟨_, rfl⟩, (g3.push _).drop⟩
abbrev Spc.oz {α : Type} (e : TypeId) (sz : Nat) (enc : α → List Value) (ys : List α) : Spc := Spc.g (fun _ => True) (fun v => [ownZ v e sz enc ys]) (fun _ => [])
theorem p_appN {α : Type} {enc : α → List Value} {ops : Array Oper} {K : List Spc → Prop} {rest : List Oper} {acc : List Spc} {d x : Nat} {y : Operand} {t e : TypeId} {i : TypeInfo} {z : Value} {sz c : Nat} {oa : Option Addr} {ys : List α} (j : Nat) {oj : Oper} [hrow : HasRow oa R sz enc ys] (hoj : ops[j]? = some oj) (hx : oj.dst.getD 1000000 = x) (hsj : acc[j]? = some Spc.l0) (hdep : depD ops o j = true)
    (hg : o.guard = none) (hdst : o.dst = some d) (hd : Nat.blt d n = true) (ho : o.op = .call { callee := .builtin .append, args := #[.tmp x, y], argTypes := #[t, t] }) (ht : P.underlying t = some (.slice e)) (hi : P.info? e = some i) (hz : i.zero = some z) (hsz : i.size = sz) (hzs : z.cells.size = sz) (henc : ∀ x, (enc x).length = sz)
    (hy : ∀ u, ev ((x, u) :: L) y = some (.slice oa ys.length c)) (hbd : ys.length ≤ 1000000 ∧ i.bytes ≤ 1000000) (h : ParO P W n M R ops K rest (acc ++ [Spc.oz e sz enc ys]) L) : ParO P W n M R ops K (o :: rest) acc L := by
  refine ⟨Spc.oz e sz enc ys, by simp [hdst, hd], .inl ⟨rfl, .inr (.inr (.inl ⟨hg, j, oj, Spc.l0, hoj, hsj, rfl, hdep, ?_⟩))⟩, by simpa [addL, Spc.g] using h⟩
  rintro u ⟨b, rfl⟩
  rw [hx]
  intro Mx Rx a w g1 g3
  have g3 : St W (Mx ++ M) (Rx ++ R) w := g3
  obtain ⟨v', w', hr, hw'⟩ := run_appN (P := P) (ty := o.type) (c := c) (b := b) g3 (List.mem_append_right _ hrow.mem) henc ht hi hz hsz hzs hbd
  have hxe : ev ((x, Value.slice (some ⟨b, 0, none⟩) 0 0) :: L) (.tmp x) = some (.slice (some ⟨b, 0, none⟩) 0 0) := by simp [ev, look_cons_eq]
  have hrun : (execOp a.eval o).run P w = .ok (.value v') w' := by
    unfold execOp
    simp only [ho, resolve, invoke, builtin, Sem.run_bind, Sem.run_pure, Result.andThen_ok, List.map_toArray, List.map_cons, List.map_nil, g1.ev hxe, g1.ev (hy _), hr]
  rw [hrun]
  exact ⟨trivial, hw'⟩
theorem f_oz {α : Type} {X : Act → World → Prop} {os : List Oper} {ss : List Spc} {e : TypeId} {sz : Nat} {enc : α → List Value} {ys : List α} {d : Nat} (hdst : o.dst = some d) (h : ∀ v, Fin W n D X os ss ((d, v) :: L) (ownZ v e sz enc ys :: M) R) : Fin W n D X (o :: os) (Spc.oz e sz enc ys :: ss) L M R := f_g hdst (fun v _ => h v)
theorem f_l0 {X : Act → World → Prop} {os : List Oper} {ss : List Spc} {d : Nat} (hdst : o.dst = some d) (h : ∀ b, Fin W n D X os ss ((d, .slice (some ⟨b, 0, none⟩) 0 0) :: L) M R) : Fin W n D X (o :: os) (Spc.l0 :: ss) L M R := f_g hdst (by rintro v ⟨b, rfl⟩; exact h b)
theorem St.ownZ_cases {α : Type} {enc : α → List Value} {sz : Nat} {w : World} {v : Value} {e : TypeId} {xs : List α} {M' : List Res} (h : St W (ownZ v e sz enc xs :: M') R w) : ((∃ oa, v = .slice oa 0 0) ∧ xs = [] ∧ St W M' R w) ∨ St W (ownL v e sz enc xs :: M') R w := by
  obtain ⟨s, ⟨s1, s2, rfl, hz, hS⟩, hO, hR⟩ := h.mem
  rcases hz with ⟨hv, hx, rfl⟩ | hz
  · exact .inl ⟨hv, hx, ⟨h.os, h.tape, h.output, s2, hS, by simpa using hO, by simpa using hR⟩⟩
  · exact .inr ⟨h.os, h.tape, h.output, s1 ++ s2, ⟨s1, s2, rfl, hz, hS⟩, hO, hR⟩
/-- For good. -/
theorem Imp.settleZ {α : Type} {enc : α → List Value} {sz : Nat} {T : TypeId} {xs : List α} {M' : List Res} {X : Act → World → Prop} (v : Value) [hd : DelC M (ownZ v T sz enc xs) M'] (henc : ∀ x, (enc x).length = sz) (h : ∀ oa cap, v = .slice oa xs.length cap → Imp W n D L M' (rowD oa sz enc xs :: R) X) : Imp W n D L M R X := by
  intro a w g1 g2 g3
  have g4 : St W (ownZ v T sz enc xs :: M') R w := g3.perm hd.del.perm
  rcases g4.ownZ_cases with ⟨⟨oa, hv⟩, rfl, g5⟩ | g5
  · exact h oa 0 hv a w g1 g2 (g5.derive (fun V _ => .inl rfl))
  · haveI : HasOwn v (ownL v T sz enc xs :: M') T sz enc xs M' := ⟨Del.here⟩
    exact Imp.settleS (M := ownL v T sz enc xs :: M') v henc h a w g1 g2 g5
end Go.G


set_option linter.unusedVariables false
namespace Go.G
variable {P : Program} {W : World} {n : Nat} {D : List Deferred} {L : Tm} {M : List Res} {R : List Fact} {Q : Exit → Act → World → Prop} {o : Oper}
end Go.G


set_option linter.unusedVariables false
set_option linter.unusedSimpArgs false
namespace Go.G
variable {P : Program} {W : World} {n : Nat} {D : List Deferred} {L : Tm} {M : List Res} {R : List Fact} {Q : Exit → Act → World → Prop} {o : Oper} {F : Fence} {m0 : Nat}
end Go.G


set_option linter.unusedVariables false
set_option linter.unusedSimpArgs false
namespace Go.G
variable {P : Program} {W : World} {n : Nat} {D : List Deferred} {L : Tm} {M : List Res} {R : List Fact} {Q : Exit → Act → World → Prop} {o : Oper}
def memoH (P : Program) (k : TypeId) (ok : Value → Value → Prop) (b : Nat) (kv : Value) (has : Bool) : Res := fun s => ∃ es clock, s = [(b, .map es clock)] ∧ (∀ e ∈ es.toList, (∃ l, keyOf P k e.key = some l) ∧ ok e.key e.val) ∧ (has = true → ∃ e ∈ es.toList, e.key = kv) ∧ (has = false → ∀ e ∈ es.toList, e.key ≠ kv)
theorem St.swap {w : World} {r r' : Res} {M' : List Res} (h : St W (r :: M') R w) (hr : ∀ s, r s → r' s) : St W (r' :: M') R w := by
  obtain ⟨s, ⟨s1, s2, rfl, hz, hS⟩, hO, hR⟩ := h.mem
  exact ⟨h.os, h.tape, h.output, s1 ++ s2, ⟨s1, s2, rfl, hr _ hz, hS⟩, hO, hR⟩
theorem Imp.memo_join {k : TypeId} {ok : Value → Value → Prop} {b : Nat} {kv : Value} {has : Bool} {M' : List Res} {X : Act → World → Prop} [hM : DelC M (memoH P k ok b kv has) M'] (h : Imp W n D L (memo P k ok b :: M') R X) : Imp W n D L M R X := fun a w g1 g2 g3 =>
  h a w g1 g2 ((g3.perm hM.del.perm).swap fun s ⟨es, clock, hs, hall, _⟩ => ⟨es, clock, hs, hall⟩)
theorem memoH_at {k : TypeId} {ok : Value → Value → Prop} {b : Nat} {kv : Value} {has : Bool} {M' : List Res} {w : World} (h : St W M R w) (hd : Del M (memoH P k ok b kv has) M') : ∃ es clock, w.heap[b]? = some (.map es clock) ∧ (∀ e ∈ es.toList, (∃ l, keyOf P k e.key = some l) ∧ ok e.key e.val) ∧ (has = true → ∃ e ∈ es.toList, e.key = kv) ∧ (has = false → ∀ e ∈ es.toList, e.key ≠ kv) := by
  have h4 : St W (memoH P k ok b kv has :: M') R w := h.perm hd.perm
  obtain ⟨s, ⟨es, clock, rfl, hall⟩, hO⟩ := h4.res (Upd.of_mem (List.mem_cons_self ..))
  exact ⟨es, clock, hO.at_ (b, .map es clock) (by simp), hall⟩
theorem run_lookH {k T e : TypeId} {ok : Value → Value → Prop} {b : Nat} {kv z : Value} {has : Bool} {M' : List Res} {w : World} {l : Lit} {i : TypeInfo} {x y : Operand} {cm : Bool} (v : Value) (h : St W M R w) (hd : Del M (memoH P k ok b kv has) M') (hl : WideMaps.KeyLaw P k) (hk : keyOf P k kv = some l)
    (ho : o.op = .lookup T x y cm) (hT : P.underlying T = some (.map k e)) (hi : P.info? e = some i) (hz : i.zero = some z) (hv : has = true → ∀ u, ok kv u → u = v) {ρ : Operand → Value} (e1 : ρ x = .map (some b)) (e2 : ρ y = kv) :
    (execOp ρ o).run P w = .ok (.value (if cm then .tuple #[if has then v else z, .bool has] else if has then v else z)) w := by
  obtain ⟨es, clock, hb, hall, hy, hn⟩ := memoH_at h hd
  have hz' : (zeroValue e).run P w = .ok z w := run_zeroValue' hi hz
  rcases hl.find w hk es.toList (fun e he => (hall e he).1) with ⟨hf, hne⟩ | ⟨j, e', hf, hj, he'⟩
  · have : has = false := by
      cases has
      · rfl
      · obtain ⟨e, he, hk⟩ := hy rfl
        exact absurd hk (hne e he)
    subst this
    unfold execOp
    cases cm <;> simp [ho, e1, e2, Instr.lookup, run_underlying hT, getObj, Sem.run, hb, hl.check w _ hk, hf, hz', Sem.run_bind, Sem.run_pure, Result.andThen]
  · have hm := hall e' (List.mem_of_getElem? hj)
    rw [he'] at hm
    have : has = true := by
      cases has
      · exact absurd he' (hn rfl e' (List.mem_of_getElem? hj))
      · rfl
    subst this
    have hev := hv rfl _ hm.2
    unfold execOp
    cases cm <;> simp [ho, e1, e2, Instr.lookup, run_underlying hT, getObj, Sem.run, hb, hl.check w _ hk, hf, hev, Sem.run_bind, Sem.run_pure, Result.andThen]
theorem v_lookH {k T e : TypeId} (ok : Value → Value → Prop) {b : Nat} {kv z : Value} (has : Bool) {M' : List Res} {l : Lit} {i : TypeInfo} {x y : Operand} {cm : Bool} (v : Value) [hM : DelC M (memoH P k ok b kv has) M'] (hl : WideMaps.KeyLaw P k) (hk : keyOf P k kv = some l)
    (ho : o.op = .lookup T x y cm) (hT : P.underlying T = some (.map k e)) (hi : P.info? e = some i) (hz : i.zero = some z) (hv : has = true → ∀ u, ok kv u → u = v) (hx : ev L x = some (.map (some b))) (hy : ev L y = some kv) :
    OpQ P W n L M R o (if cm then .tuple #[if has then v else z, .bool has] else if has then v else z) :=
  OpQ.of_value fun a w g1 g3 => run_lookH v g3 hM.del hl hk ho hT hi hz hv (g1.ev hx) (g1.ev hy)
theorem o_mapUpdH {ops : Array Oper} {rest : List Oper} {T k e : TypeId} {x y v : Operand} {b : Nat} {kv kv0 u : Value} {l : Lit} {ok : Value → Value → Prop} {has : Bool} {M' : List Res} [hM : DelC M (memoH P k ok b kv0 has) M'] (hl : WideMaps.KeyLaw P k) (hk : keyOf P k kv = some l)
    (ho : o.op = .mapUpdate T x y v) (hT : P.underlying T = some (.map k e)) (hg : o.guard = none) (hdst : o.dst = none)
    (hx : ev L x = some (.map (some b))) (hy : ev L y = some kv) (hv : ev L v = some u) (hok : ok kv u)
    (h : Imp W n D L (memoH P k ok b kv true :: M') R (wpList P ops Q rest)) : Imp W n D L M R (wpList P ops Q (o :: rest)) := by
  intro a w h1 h2 h3
  refine wpList_plain hg fun K hK => ?_
  unfold Oper.wp
  obtain ⟨es, clock, hb, hall, _, _⟩ := memoH_at h3 hM.del
  have hlt : b < w.heap.size := (Array.getElem?_eq_some_iff.1 hb).1
  have key : ∀ ρ : Operand → Value, ρ x = .map (some b) → ρ y = kv → ρ v = u → ∃ es' clock', (execOp ρ o).run P w = .ok .skip (w.putObj b (.map es' clock')) ∧ (∀ e ∈ es'.toList, (∃ l, keyOf P k e.key = some l) ∧ ok e.key e.val) ∧ ∃ e ∈ es'.toList, e.key = kv := by
    intro ρ e1 e2 e3
    rcases hl.find w hk es.toList (fun e he => (hall e he).1) with ⟨hf, _⟩ | ⟨j, e', hf, hj, he'⟩
    · refine ⟨es.push { key := kv, val := u, born := clock }, clock + 1, ?_, ?_, ⟨{ key := kv, val := u, born := clock }, by simp, rfl⟩⟩
      · unfold execOp
        simp [ho, e1, e2, e3, Instr.mapUpdate, run_underlying hT, getObj, setObj, Sem.run, hb, hl.check w _ hk, hf, Sem.run_bind, Sem.run_pure, Result.andThen, World.putObj]
      · intro e he
        rcases List.mem_append.1 (by simpa using he : e ∈ es.toList ++ [{ key := kv, val := u, born := clock }]) with he | he
        · exact hall e he
        · have : e = { key := kv, val := u, born := clock } := by simpa using he
          subst this
          exact ⟨⟨l, hk⟩, hok⟩
    · have hst := hl.stays w hk
      have hj' : es[j]? = some e' := by simpa using hj
      have hmj : (es.modify j fun e => { e with key := kv, val := u })[j]? = some { e' with key := kv, val := u } := by rw [Array.getElem?_modify, if_pos rfl, hj']; rfl
      refine ⟨es.modify j fun e => { e with key := kv, val := u }, clock, ?_, ?_, ⟨{ e' with key := kv, val := u }, List.mem_of_getElem? (by rw [Array.getElem?_toList]; exact hmj), rfl⟩⟩
      · unfold execOp
        simp [ho, e1, e2, e3, Instr.mapUpdate, run_underlying hT, getObj, setObj, Sem.run, hb, hl.check w _ hk, hf, hj', he', hst, Sem.run_bind, Sem.run_pure, Result.andThen, World.putObj]
      · intro e he
        obtain ⟨m, hm⟩ := List.mem_iff_getElem?.1 he
        have hm' : (es.modify j fun e => { e with key := kv, val := u })[m]? = some e := by rw [← Array.getElem?_toList]; exact hm
        by_cases hjm : j = m
        · subst hjm
          rw [Array.getElem?_modify, if_pos rfl, hj'] at hm'
          have : e = { e' with key := kv, val := u } := by simpa using hm'.symm
          subst this
          exact ⟨⟨l, hk⟩, hok⟩
        · rw [Array.getElem?_modify, if_neg hjm] at hm'
          exact hall e (List.mem_of_getElem? (by simpa using hm'))
  obtain ⟨es', clock', hr, hall', hin⟩ := key _ (h1.ev hx) (h1.ev hy) (h1.ev hv)
  rw [hr, Oper.upon_skip, hdst]
  have h4 := h3.perm hM.del.perm
  refine hK _ _ (h a _ h1 h2 ?_)
  refine h4.replace Upd.here rfl rfl rfl ?_
  rintro s ⟨es1, clock1, rfl, _⟩ hO
  refine ⟨[(b, .map es' clock')], ⟨es', clock', rfl, hall', fun _ => hin, fun h => (by cases h)⟩, ⟨by simp [keys], ?_⟩, ?_, ?_⟩
  · intro p hp
    have : p = (b, .map es' clock') := by simpa using hp
    subst this
    exact World.putObj_heap_same hlt
  · intro c hc; exact .inl (by simpa [keys] using hc)
  · intro c _ hc
    exact World.putObj_heap_other (by intro e; subst e; exact hc (by simp [keys]))
end Go.G


set_option linter.unusedVariables false
set_option linter.unusedSimpArgs false
namespace Go.G
variable {P : Program} {W : World} {n : Nat} {D : List Deferred} {L : Tm} {M : List Res} {R : List Fact} {Q : Exit → Act → World → Prop} {o : Oper}
/-! ### functions with a range over a function that take resources -/
theorem FnC.introM {k : FuncId} {args : List Value} {r r' : Res} {R0 : List Fact} {v : Value} {fn : Func} {c : Code} (he : ∀ (ag : Array Value) (w : World), (callFunc k ag).run P w = .ok (.enter k ag) w)
    (hf : P.funcs[k]? = some fn) (hb : fn.body = some c) (hn : fn.ntmps = n) (ha : Nat.ble args.length n = true)
    (h : ∀ W Mf Rf, Imp W n [] (argsL args 0) (r :: Mf) (R0 ++ Rf) (c.wp P (bodyPostM Fence.wide 0 P fn (RetE W Mf (R0 ++ Rf) (fun e M' R' => e = .returned v ∧ M' = [r'] ∧ R' = []))))) : FnC P k args r R0 v r' := by
  refine ⟨he, fun W M Rf w hw => (callsIn_wide (n := 0)).1 (callsIn_of_wp_marks hf hb trivial (wpIn_wide.2 ?_))⟩
  rw [hn]
  exact h W M Rf _ w (FSat.entry (Nat.le_of_ble_eq_true ha)) rfl hw
theorem m_rete {db : Nat} {fn : Func} {v : Value} {Mf M1 : List Res} {R0 : List Fact} {Post : Ending → List Res → List Fact → Prop} (M' : List Res) (R' : List Fact) [hM : DelC M (bl db (.deferred (some []))) M1] (hr : Rd P W n L M1 R fn v) (hp : Post (.returned v) M' R') (hS : SelM M1 (M' ++ Mf)) (hR : SubR R (R' ++ R0)) :
    Imp W n [mark db] L M R (bodyPostM Fence.wide 0 P fn (RetE W Mf R0 Post) .ret) :=
  leaves_mark hr (fun _ h => ⟨M', R', hp, (h.sel hS).weak hR⟩)
/-- A function that keeps a memo: whether the key lies in it or not. -/
theorem FnM.of_memo {k : FuncId} {kt : TypeId} {ok : Value → Value → Prop} {b : Nat} {kv v : Value} {args : List Value} {R0 : List Fact} (hy : FnC P k args (memoH P kt ok b kv true) R0 v (memo P kt ok b)) (hn : FnC P k args (memoH P kt ok b kv false) R0 v (memo P kt ok b)) : FnM P k args (memo P kt ok b) R0 (fun u => u = v) := by
  refine ⟨hy.enter, fun W M Rf w hw => ?_⟩
  obtain ⟨s, ⟨s1, s2, rfl, ⟨es, clock, rfl, hall⟩, hS⟩, hO, hR⟩ := hw.mem
  have fin : ∀ {e : Ending} {w' : World}, (∃ M' R', (e = .returned v ∧ M' = [memo P kt ok b] ∧ R' = []) ∧ St W (M' ++ M) (R' ++ (R0 ++ Rf)) w') → ∃ v', e = .returned v' ∧ v' = v ∧ St W (memo P kt ok b :: M) (R0 ++ Rf) w' := by
    rintro e w' ⟨M', R', ⟨he, rfl, rfl⟩, h⟩
    exact ⟨v, he, rfl, h⟩
  by_cases hx : ∃ e ∈ es.toList, e.key = kv
  · exact (hy.calls W M Rf w ⟨hw.os, hw.tape, hw.output, _, ⟨_, s2, rfl, ⟨es, clock, rfl, hall, fun _ => hx, fun h => (by cases h)⟩, hS⟩, hO, hR⟩).mono fun e w' h => fin h
  · exact (hn.calls W M Rf w ⟨hw.os, hw.tape, hw.output, _, ⟨_, s2, rfl, ⟨es, clock, rfl, hall, fun h => (by cases h), fun _ e he hk => hx ⟨e, he, hk⟩⟩, hS⟩, hO, hR⟩).mono fun e w' h => fin h
end Go.G


set_option linter.unusedVariables false
namespace Go.G
variable {P : Program} {W : World} {n : Nat} {D : List Deferred} {L : Tm} {M : List Res} {R : List Fact} {Q : Exit → Act → World → Prop} {o : Oper}
@[reducible] def panOf (pv : Value) : List PanicEntry := [{ v := pv, recovered := false }]
end Go.G


set_option linter.unusedVariables false
namespace Go.G
variable {P : Program} {W : World} {n : Nat} {D : List Deferred} {L : Tm} {M : List Res} {R : List Fact} {Q : Exit → Act → World → Prop} {o : Oper}
section
variable {α : Type} {enc : α → List Value} {sz : Nat} {T : TypeId} {xs : List α} {M' : List Res} {oa : Option Addr} {cap : Nat}
theorem St.rowO {w : World} (h : St W M R w) (hd : Del M (ownL (.slice oa xs.length cap) T sz enc xs) M') (henc : ∀ x, (enc x).length = sz) (hne : 0 < xs.length) : ∃ b off, oa = some ⟨b, off, none⟩ ∧ ∀ (i j : Nat) (h : i < xs.length), j < sz → w.cell? ⟨b, off + i * sz + j, none⟩ = (enc xs[i])[j]? := by
  have h4 : St W (ownL (.slice oa xs.length cap) T sz enc xs :: M') R w := h.perm hd.perm
  obtain ⟨s, ⟨_, hcase⟩, hO⟩ := h4.res (Upd.of_mem (List.mem_cons_self ..))
  rcases hcase with ⟨_, h0, _⟩ | ⟨b, cap', C, he, hmc, _, hC, htake, rfl⟩
  · omega
  · have ea : oa = some ⟨b, 0, none⟩ := by cases he; rfl
    refine ⟨b, 0, ea, fun i j hi hj => ?_⟩
    have hb : w.heap[b]? = some (.cells C T (0, 0)) := hO.at_ (b, .cells C T (0, 0)) (by simp)
    rw [cell_of_row w b _ C T (0, 0) hb, ← flat_at henc xs i j hi hj, ← htake, List.getElem?_take, if_pos]
    · simp
    · have : (i + 1) * sz ≤ xs.length * sz := Nat.mul_le_mul_right _ (by omega)
      rw [Nat.add_mul] at this; omega
theorem v_indexAddrO {t : TypeId} {x ix : Operand} {l : Nat} {i : TypeInfo} {e : TypeId} {k : Nat} {kd : IntKind} [hM : HasOwn (.slice oa l cap) M T sz enc xs M'] (henc : ∀ x, (enc x).length = sz) (ho : o.op = .indexAddr t x ix) (hT : P.underlying t = some (.slice e)) (hi : P.info? e = some i)
    (hx : ev L x = some (.slice oa l cap)) (hk : ev L ix = some (.int kd (k : Int))) (hsz : i.size = sz) (h1 : k < l) (hl : l = xs.length) : OpQ P W n L M R o (pe oa k sz 0) :=
  OpQ.of_value fun g w g1 g2 => by
    subst hl hsz
    obtain ⟨b, off, rfl, _⟩ := g2.rowO hM.del henc (by omega)
    have h0 : (0 : Int) ≤ (k : Int) := by omega
    have h1' : (k : Int) < (xs.length : Int) := by omega
    simp [execOp, ho, g1.ev hx, g1.ev hk, Instr.indexAt, run_underlying hT, asIntOf, h0, h1', run_sizeOf' hi, add_at, pe, h1]
end
end Go.G


namespace Go.G
theorem splice_len : ∀ (us vs : List Value) (off : Nat), (splice vs off us).length = vs.length
  | [], _, _ => rfl
  | u :: us, vs, off => by
    show (splice (vs.set off u) (off + 1) us).length = _
    rw [splice_len us, List.length_set]
theorem flat_set {α : Type} [Inhabited α] {enc : α → List Value} {sz : Nat} (henc : ∀ x, (enc x).length = sz) {y : α} {v : Value} {sp : List Value} : ∀ (xs : List α) (i j : Nat), i < xs.length → j < sz → enc y = (enc (xs.getD i default)).set j v → (xs.flatMap enc ++ sp).set (i * sz + j) v = (xs.set i y).flatMap enc ++ sp
  | [], i, j, h, _, _ => by simp at h
  | x :: r, 0, j, _, hj, he => by
    simp only [List.flatMap_cons, List.set_cons_zero, Nat.zero_mul, Nat.zero_add, List.append_assoc]
    rw [List.set_append_left _ _ (by rw [henc]; exact hj)]
    have he : enc y = (enc x).set j v := he
    rw [he]
  | x :: r, i + 1, j, h, hj, he => by
    simp only [List.flatMap_cons, List.set_cons_succ, List.append_assoc]
    rw [List.set_append_right _ _ (by rw [henc, Nat.add_mul]; omega), henc, show (i + 1) * sz + j - sz = i * sz + j from by rw [Nat.add_mul]; omega]
    rw [flat_set henc r i j (by simpa using h) hj he]
end Go.G


namespace Go.G
variable {P : Program} {W : World} {n : Nat} {D : List Deferred} {L : Tm} {M : List Res} {R : List Fact} {Q : Exit → Act → World → Prop} {o : Oper}
/-- No panic. -/
def NoP (Q : Exit → Act → World → Prop) : Exit → Act → World → Prop := fun e a w => match e with | .normal => Q .normal a w | _ => False
theorem r_nop (h : Imp W n D L M R (Q .normal)) : Imp W n D L M R (NoP Q .normal) := h
/-- It waits for those of a list too. -/
def addE (fl : List Nat) (o : Oper) : Oper := { o with after := o.after ++ (fl.map fun i => (⟨i, .phase⟩ : Edge)).toArray }
/-- The tail waits for those of a list. -/
def floatL (fl : List Nat) (m : Nat) (l : List Oper) : List Oper := l.take m ++ (l.drop m).map (addE fl)
theorem floatL_at (fl : List Nat) (m : Nat) (l : List Oper) (j : Nat) : (floatL fl m l)[j]? = (l[j]?).map fun o => if j < m then o else addE fl o := by
  unfold floatL
  by_cases h : j < m
  · by_cases hl : j < l.length
    · rw [List.getElem?_append_left (by rw [List.length_take]; omega), List.getElem?_take, if_pos h]
      simp [h]
    · rw [List.getElem?_eq_none (by rw [List.length_append, List.length_take, List.length_map, List.length_drop]; omega), List.getElem?_eq_none (by omega)]; rfl
  · by_cases hm : m ≤ l.length
    · rw [List.getElem?_append_right (by rw [List.length_take]; omega), List.length_take, Nat.min_eq_left hm, List.getElem?_map, List.getElem?_drop, show m + (j - m) = j from by omega]
      simp [h]
    · rw [List.getElem?_eq_none (by rw [List.length_append, List.length_take, List.length_map, List.length_drop]; omega), List.getElem?_eq_none (by omega)]; rfl
theorem floatL_len (fl : List Nat) (m : Nat) (l : List Oper) : (floatL fl m l).length = l.length := by
  unfold floatL
  rw [List.length_append, List.length_take, List.length_map, List.length_drop]; omega
section
variable {fl : List Nat} {m : Nat} {l : List Oper}
theorem float_ready {listed : Array Bool} (hi : ∀ i ∈ fl, listed.getD i false = true) {j : Nat} : j ∈ Region.ready .any (floatL fl m l).toArray listed ↔ j ∈ Region.ready .any l.toArray listed := by
  rw [mem_ready, mem_ready]
  constructor
  · rintro ⟨h0, o, ho, h⟩
    rw [List.getElem?_toArray, floatL_at] at ho
    cases hl : l[j]? with
    | none => rw [hl] at ho; cases ho
    | some p =>
      rw [hl] at ho
      simp only [Option.map_some, Option.some.injEq] at ho
      refine ⟨h0, p, by simpa using hl, fun e he hb => h e ?_ hb⟩
      subst ho
      split
      · exact he
      · unfold addE; exact Array.mem_append_left _ he
  · rintro ⟨h0, o, ho, h⟩
    have ho : l[j]? = some o := by simpa using ho
    refine ⟨h0, if j < m then o else addE fl o, by rw [List.getElem?_toArray, floatL_at, ho]; rfl, fun e he hb => ?_⟩
    split at he
    · exact h e he hb
    · unfold addE at he
      rcases Array.mem_append.1 he with he | he
      · exact h e he hb
      · simp only [List.mem_toArray, List.mem_map] at he
        obtain ⟨i, hi', rfl⟩ := he
        exact hi i hi'
theorem float_yielded (tmps : Array Value) : yielded (floatL fl m l).toArray tmps = yielded l.toArray tmps := by
  funext j
  unfold yielded
  rw [List.getElem?_toArray, floatL_at, List.getElem?_toArray]
  cases l[j]? with
  | none => rfl
  | some o =>
    by_cases h : j < m
    · simp only [Option.map_some, if_pos h]
    · simp only [Option.map_some, if_neg h]; rfl
theorem float_op {j : Nat} {K : Act → World → Prop} {a : Act} {w : World} (h : wpOp P (floatL fl m l).toArray Q j K a w) : wpOp P l.toArray Q j K a w := by
  unfold wpOp at *
  rw [List.getElem?_toArray, floatL_at, float_yielded] at h
  rw [List.getElem?_toArray]
  cases hl : l[j]? with
  | none => rw [hl] at h; exact h
  | some o =>
    rw [hl] at h
    simp only [Option.map_some] at h ⊢
    split at h
    · exact h
    · exact h
end
theorem frame_at {free tail : List Oper} {ss : List Spc} (hpb : parB free tail = true) (hl : ss.length = free.length) (hfr : ∀ o ∈ free, look L (o.dst.getD 1000000) = none) (hL : LateOK (free ++ tail).toArray ss) (hab : ∀ (i : Nat) (s : Spc) (c : List PanicEntry), ss[i]? = some s → s.ab = some c → Imp W n D L M R (Q (.panic c)))
    (hstep : ∀ i o s, free[i]? = some o → ss[i]? = some s → Step1 P W n M R (free ++ tail).toArray ss i o s (detL (free.take i) (ss.take i) L))
    {listed : Array Bool} {a : Act} {w : World} (hJ : J W n D L M R (free ++ tail).toArray free ss listed a w) {i : Nat} {o : Oper} (ho : free[i]? = some o) (hp : ∀ e ∈ o.after, Region.binds .any e = true → listed.getD e.on false = true) :
    ∃ a' g, FSat n (detL (free.take i) (ss.take i) L) a' ∧ execOp a.eval o = execOp a'.eval o ∧ (∀ i o s, free[i]? = some o → ss[i]? = some s → listed.getD i false = true → s.val (g i) ∧ (∀ d, o.dst = some d → a.tmps[d]? = some (g i))) ∧ St W (resOf ss listed g free.length ++ M) (fctOf ss listed g free.length ++ R) w := by
  simp only [parB, Bool.and_eq_true] at hpb
  obtain ⟨⟨⟨⟨hns, hfree⟩, hnd0⟩, hback⟩, htail⟩ := hpb
  have hnd := injB_sound hnd0
  have hmN : free.length ≤ (free ++ tail).length := by simp
  have hmask : ∀ listed', Closed (free ++ tail).toArray listed' → ∀ i o, free.length ≤ i → (free ++ tail).toArray[i]? = some o → (∀ e ∈ o.after, Region.binds .any e = true → listed'.getD e.on false = true) → ∀ j, j < i → listed'.getD j false = true := by
    intro listed' hc i o hi ho hp j hj
    have hlt : i < (free ++ tail).length := by simpa using (Array.getElem?_eq_some_iff.1 ho).1
    have h1 := List.all_eq_true.1 htail i (List.mem_range.2 hlt)
    simp only [Bool.or_eq_true] at h1
    rcases h1 with h1 | h1
    · have : i < free.length := by simpa using h1
      omega
    · have h2 := List.all_eq_true.1 h1 j (List.mem_range.2 hj)
      exact (masks_sound hc (free ++ tail) [] (fun j => by simp) (fun i hi => by simp at hi)).1 i o (Nat.zero_le _) ho hp j h2
  have hbk : ∀ i o, (free ++ tail).toArray[i]? = some o → ∀ e ∈ o.after, Region.binds .any e = true → e.on < i := by
    intro i o ho e he hbi
    have hlt : i < (free ++ tail).length := by simpa using (Array.getElem?_eq_some_iff.1 ho).1
    have := List.all_eq_true.1 hback i (List.mem_range.2 hlt)
    rw [show (free ++ tail)[i]? = some o from by simpa using ho] at this
    have := Array.all_eq_true_iff_forall_mem.1 this e he
    simpa [hbi] using this
  have him : i < free.length := (List.getElem?_eq_some_iff.1 ho).1
  have hoi : (free ++ tail).toArray[i]? = some o := by
    rw [List.getElem?_toArray, List.getElem?_append_left him]; exact ho
  have hsi : i < ss.length := by omega
  have hs : ss[i]? = some ss[i] := List.getElem?_eq_getElem hsi
  have st := hstep i o ss[i] ho hs
  obtain ⟨fops, fgd⟩ := freeB_spec hfree ho
  obtain ⟨a', f1, f2, f3⟩ := mk_frame (n := n) (free.take i) (ss.take i) hJ.frame (fun j p sj e1 e2 => by
    have hji : j < i := by have := (List.getElem?_eq_some_iff.1 e1).1; simp at this; omega
    rw [List.getElem?_take, if_pos hji] at e1 e2
    exact (hstep j p sj e1 e2).lt) (hnd.take i)
  obtain ⟨g, hg, hS⟩ := hJ.vals
  have hag : ∀ t, (∀ j p, free[j]? = some p → p.dst.getD 1000000 = t → j < i → listed.getD j false = true) → a'.tmps[t]? = a.tmps[t]? := by
    intro t ht
    by_cases hex2 : ∃ (j : Nat) (p : Oper) (s : Spc) (v : Value), (free.take i)[j]? = some p ∧ (ss.take i)[j]? = some s ∧ s.det = some v ∧ p.dst.getD 1000000 = t
    · obtain ⟨j, p, s, v, e1, e2, e3, e4⟩ := hex2
      have hji : j < i := by have := (List.getElem?_eq_some_iff.1 e1).1; simp at this; omega
      have e1' : free[j]? = some p := by rw [List.getElem?_take, if_pos hji] at e1; exact e1
      have e2' : ss[j]? = some s := by rw [List.getElem?_take, if_pos hji] at e2; exact e2
      have hlj := ht j p e1' e4 hji
      obtain ⟨k1, k2⟩ := hg j p s e1' e2' hlj
      have hgv : g j = v := by simpa [Spc.val, e3] using k1
      obtain ⟨dj, hdj⟩ : ∃ d, p.dst = some d := by
        have := (hstep j p s e1' e2').lt
        cases hod : p.dst with
        | none => rw [hod, e3] at this; simp at this
        | some d => exact ⟨d, rfl⟩
      rw [← e4, f3 j p s v e1 e2 e3, show p.dst.getD 1000000 = dj from by simp [hdj], k2 dj hdj, hgv]
    · exact f2 t (fun j p s v e1 e2 e3 e4 => hex2 ⟨j, p, s, v, e1, e2, e3, e4⟩)
  have hev : ∀ x ∈ o.op.operands, a.eval x = a'.eval x := by
    intro x hx
    cases x with
    | tmp t =>
      have := hag t (fun j p e1 e2 _ => by
        obtain ⟨e, he, hbi, hon⟩ := depOn_spec (fops j p e1 (by
          rw [e2]; unfold tmpsOf
          exact List.mem_filterMap.2 ⟨.tmp t, by simpa using hx, rfl⟩))
        have := hp e he hbi
        rwa [hon] at this)
      simp [Act.eval, this]
    | const v => rfl
    | global v => rfl
    | func v => rfl
  have hex3 : execOp a.eval o = execOp a'.eval o := execOp_congr o (Region.noSelect_spec hns i o · · hoi) hev
  exact ⟨a', g, f1, hex3, hg, hS⟩
/-- Those that may be drawn late look at the frame alone. -/
def FlOK (P : Program) (n : Nat) (L : Tm) (free : List Oper) (ss : List Spc) : List Nat → Prop
  | [] => True
  | i :: r => (∃ (o : Oper) (v : Value) (d : Nat), free[i]? = some o ∧ ss[i]? = some (Spc.q v) ∧ o.guard = none ∧ o.dst = some d ∧ Nat.blt d n = true ∧ ∀ a, FSat n (detL (free.take i) (ss.take i) L) a → ∀ w, (execOp a.eval o).run P w = .ok (.value v) w) ∧ FlOK P n L free ss r
theorem FlOK.at {free : List Oper} {ss : List Spc} : ∀ {fl : List Nat}, FlOK P n L free ss fl → ∀ i ∈ fl, ∃ (o : Oper) (v : Value) (d : Nat), free[i]? = some o ∧ ss[i]? = some (Spc.q v) ∧ o.guard = none ∧ o.dst = some d ∧ Nat.blt d n = true ∧ ∀ a, FSat n (detL (free.take i) (ss.take i) L) a → ∀ w, (execOp a.eval o).run P w = .ok (.value v) w
  | [], _, _, h => by cases h
  | j :: r, ⟨h1, h2⟩, i, hi => by
    rcases List.mem_cons.1 hi with rfl | hi
    · exact h1
    · exact FlOK.at h2 i hi
/-- The tail waits for all but those of a list. -/
def tailF (fl : List Nat) (ms : List Nat) (m N : Nat) : Bool := (List.range N).all fun t => Nat.blt t m || (List.range t).all fun j => fl.contains j || (ms.getD t 0).testBit j
def freeAt (l : List Oper) (i : Nat) : Bool :=
  match l[i]? with
  | none => false
  | some oi => (List.range l.length).all fun j => j == i || depOn oi j || match l[j]? with
      | some oj => oj.after.any (fun e => Region.binds .any e && e.on == i) || oi.apart l.toArray oj
      | none => true
def freesB (l : List Oper) (fl : List Nat) : Bool := fl.all (freeAt l)
theorem freeAt_spec {l : List Oper} {i : Nat} {oi : Oper} (hi : l[i]? = some oi) (h : freeAt l i = true) {listed : Array Bool} (hp : ∀ e ∈ oi.after, Region.binds .any e = true → listed.getD e.on false = true) (j : Nat) (oj : Oper)
    (hj : l.toArray[j]? = some oj) (hne : j ≠ i) (hun : listed.getD j true = false) (hno : ∀ e ∈ oj.after, Region.binds .any e = true → e.on ≠ i) : oi.apart l.toArray oj = true := by
  have hj : l[j]? = some oj := by simpa using hj
  simp only [freeAt, hi] at h
  have h1 := List.all_eq_true.1 h j (List.mem_range.2 (List.getElem?_eq_some_iff.1 hj).1)
  simp only [hj, Bool.or_eq_true, beq_iff_eq, hne, false_or] at h1
  rcases h1 with h1 | h1 | h1
  · obtain ⟨e, he, hb, hon⟩ := depOn_spec h1
    have := hp e he hb
    rw [hon] at this
    rcases Nat.lt_or_ge j listed.size with h' | h'
    · simp [h'] at hun this; rw [hun] at this; cases this
    · simp [Array.getElem?_eq_none h'] at this
  · obtain ⟨e, he, hb⟩ := Array.any_eq_true'.1 h1
    simp only [Bool.and_eq_true, beq_iff_eq] at hb
    exact absurd hb.2 (hno e he hb.1)
  · exact h1
theorem p_nilF {ops : Array Oper} {F : List Spc → Prop} {G : List Spc → Prop} {P0 : List Res} {acc acc' : List Spc} (e : acc = acc') (hp : preOf acc' = P0) (hi : G acc') (h : F acc') (hl : lateX ops acc' = true := by rfl) : ParO P W n M R ops (fun ss => G ss ∧ preOf ss = P0 ∧ lateX ops ss = true ∧ F ss) [] acc L := by
  subst e
  exact ⟨hi, hp, hl, h⟩
/-- The value of a move, of a sum. -/
theorem float_move {o : Oper} {x : Operand} {v : Value} (ho : o.op = .move x) (hx : ev L x = some v) : ∀ a, FSat n L a → ∀ w, (execOp a.eval o).run P w = .ok (.value v) w := fun a h w => by
  simp [execOp, ho, h.ev hx]
end Go.G


namespace Go.G
variable {P : Program} {W : World} {n : Nat} {D : List Deferred} {L : Tm} {M : List Res} {R : List Fact} {Q : Exit → Act → World → Prop} {o : Oper}
end Go.G


namespace Go.G
open Go.ChangeShapes Go.RowKit Go.Deep
section
variable {H : Type} {en : TypeId × Value → H} {P : Program} {w : World} {base : Nat} {sp : Nat → Bool} {held : Bool}
theorem mapM_at {α β : Type} {f : α → Option β} : ∀ {l : List α} {r : List β}, l.mapM f = some r → r.length = l.length ∧ ∀ (j : Nat) (x : α), l[j]? = some x → f x = r[j]?
  | [], r, h => by
    simp at h; subst h; simp
  | a :: l, r, h => by
    rw [List.mapM_cons] at h
    simp only [bind, Option.bind_eq_some_iff, pure, Option.some.injEq] at h
    obtain ⟨b, hb, bs, hbs, rfl⟩ := h
    obtain ⟨h1, h2⟩ := mapM_at hbs
    refine ⟨by simp [h1], fun j x hj => ?_⟩
    cases j with
    | zero => simp at hj; subst hj; simpa using hb
    | succ j => simpa using h2 j x (by simpa using hj)
theorem cells_at {a : Addr} {n : Nat} {cs : List Value} (h : w.cells? base a n = some cs) : cs.length = n ∧ ∀ j, j < n → w.cell? (a.add j) = cs[j]? := by
  unfold World.cells? at h
  split at h
  · obtain ⟨h1, h2⟩ := mapM_at h
    exact ⟨by simpa using h1, fun j hj => h2 j j (by simp [hj])⟩
  · cases h
/-- A slice of things of one kind is a row that is known. -/
theorem open_rowD {α : Type} [Inhabited α] {enc : α → List Value} {sz : Nat} (ok : α → Prop) {t e : TypeId} {fuel : Nat} {cs : List Value} {x : DataW H × List MemPlace} (ht : P.underlying t = some (.slice e)) (hc : P.cellsOf e = sz) (hpos : 0 < sz)
    (hel : ∀ fuel cs x, DataW.trod en P w base sp held fuel e cs = some x → ∃ y : α, cs = enc y ∧ ok y) (h : DataW.trod en P w base sp held fuel t cs = some x) :
    ∃ (oa : Option Addr) (cap : Nat) (xs : List α), cs = [.slice oa xs.length cap] ∧ rowD oa sz enc xs (full w) ∧ (∀ y ∈ xs, ok y) ∧ xs.length ≤ maxLen := by
  rcases open_slice ht h with ⟨rfl, _⟩ | ⟨a, len, cap, m, n, D, Pl, rfl, _, hlc, hcm, hm, _, hall⟩
  · exact ⟨none, 0, [], rfl, .inl rfl, by simp, Nat.zero_le _⟩
  · have hle : len ≤ m := by rw [hm]; split <;> omega
    have hch : ∀ i, i < len → ∃ y : α, w.cells? base (a.add (i * sz)) sz = some (enc y) ∧ ok y := by
      intro i hi
      obtain ⟨cs', h1, h2⟩ := hall i (by omega)
      obtain ⟨y, rfl, hy⟩ := hel _ _ _ h2
      rw [hc] at h1
      exact ⟨y, h1, hy⟩
    obtain ⟨f, hf⟩ := choose_lt hch
    refine ⟨some a, cap, (List.range len).map f, by simp, ?_, ?_, by simp; omega⟩
    · by_cases h0 : len = 0
      · subst h0; exact .inl rfl
      · obtain ⟨c1, c2⟩ := cells_at (hf 0 (by omega)).1
        have hz := c2 0 hpos
        have hsome : ∃ v, w.cell? ((a.add (0 * sz)).add 0) = some v := ⟨(enc (f 0))[0]'(by omega), by rw [hz]; simp [show 0 < (enc (f 0)).length from by omega]⟩
        obtain ⟨v, hv⟩ := hsome
        have ha0 : (a.add (0 * sz)).add 0 = a := by simp [Addr.add]
        rw [ha0] at hv
        unfold World.cell? at hv
        split at hv
        · rename_i C T fr hb
          split at hv
          · cases hv
          · rename_i hs
            obtain ⟨b, off, spot⟩ := a
            have hsp : spot = none := by cases spot <;> simp_all
            subst hsp
            refine .inr ⟨b, off, C, T, fr, rfl, hb, fun i j hi hj => ?_⟩
            have hi' : i < len := by simpa using hi
            obtain ⟨_, d2⟩ := cells_at (hf i hi').1
            have := d2 j hj
            rw [add_at, add_at] at this
            rw [cell_of_row w b _ C T fr hb] at this
            rw [this]
            simp
        · cases hv
    · intro y hy
      obtain ⟨i, hi, rfl⟩ := List.mem_map.1 hy
      exact (hf i (by simpa using hi)).2
theorem open_i {t : TypeId} {k : IntKind} {fuel : Nat} {cs : List Value} {x : DataW H × List MemPlace} (ht : P.underlying t = some (.int k)) (h : DataW.trod en P w base sp held fuel t cs = some x) : ∃ n, cs = [.int k n] ∧ (Lit.int k n).wf = true := by
  obtain ⟨n, h1, _, h2⟩ := DataW.trod_int ht h
  exact ⟨n, h1, h2⟩
/-- A struct's field. -/
theorem open_field {t : TypeId} {fs : Array Field} {fuel : Nat} {cs : List Value} {x : DataW H × List MemPlace} (ht : P.underlying t = some (.struct fs)) (h : DataW.trod en P w base sp held fuel t cs = some x) (i : Nat) {f : Field} (hf : fs[i]? = some f) {n : Nat} (hn : P.cellsOf f.type = n) :
    ∃ fuel' y, DataW.trod en P w base sp held fuel' f.type ((cs.drop f.offset).take n) = some y := by
  obtain ⟨xs, m, _, _, _, hl, hall⟩ := DataW.trod_struct ht h
  have hi : i < xs.length := by rw [hl]; exact (Array.getElem?_eq_some_iff.1 hf).1
  have := hall i f hf
  rw [hn, List.getElem?_eq_getElem hi] at this
  exact ⟨m, _, this⟩
theorem open_len {t : TypeId} {fs : Array Field} {fuel : Nat} {cs : List Value} {x : DataW H × List MemPlace} (ht : P.underlying t = some (.struct fs)) (h : DataW.trod en P w base sp held fuel t cs = some x) : cs.length = P.cellsOf t := (DataW.trod_struct ht h).choose_spec.choose_spec.2.2.1
theorem open_lenA {t e : TypeId} {k : Nat} {fuel : Nat} {cs : List Value} {x : DataW H × List MemPlace} (ht : P.underlying t = some (.array k e)) (h : DataW.trod en P w base sp held fuel t cs = some x) : cs.length = P.cellsOf t := (DataW.trod_array ht h).choose_spec.choose_spec.2.2.1
theorem open_item {t e : TypeId} {k : Nat} {fuel : Nat} {cs : List Value} {x : DataW H × List MemPlace} (ht : P.underlying t = some (.array k e)) (h : DataW.trod en P w base sp held fuel t cs = some x) (i : Nat) (hi : i < k) {n : Nat} (hn : P.cellsOf e = n) :
    ∃ fuel' y, DataW.trod en P w base sp held fuel' e ((cs.drop (i * n)).take n) = some y := by
  obtain ⟨xs, m, _, _, _, hl, hall⟩ := DataW.trod_array ht h
  have := hall i hi
  rw [hn, List.getElem?_eq_getElem (by omega)] at this
  exact ⟨m, _, this⟩
end

/-! ### what stands before is kept -/
def keepF (W : World) : Fact := fun V => ∀ b o, W.heap[b]? = some o → V b = some o
theorem vw_nil (w : World) : vw [] w = full w := by funext b; simp [vw, full]
theorem St.start (W : World) {R : List Fact} (h : ∀ φ ∈ R, Mono φ ∧ φ (full W)) : St W [] R W := by
  refine ⟨rfl, rfl, rfl, [], rfl, ⟨by simp [keys], by simp⟩, fun φ hφ => ?_⟩
  obtain ⟨hm, hv⟩ := h φ hφ
  rw [vw_nil]
  exact fun V' hl => hm _ _ hv hl
theorem Mono.keep (W : World) : Mono (keepF W) := fun _ _ h hl b o ho => hl _ _ (h b o ho)
theorem keepF_self (W : World) : keepF W (full W) := fun _ _ h => h
theorem below_of {W w' : World} {M : List Res} {R : List Fact} (h : St W M (R ++ [keepF W]) w') : Below W.heap.size W w' := by
  have hk : keepF W (full w') := h.fact (List.mem_append_right _ (by simp))
  have hb : ∀ k, k < W.heap.size → w'.heap[k]? = W.heap[k]? := fun k hk' => by
    have e : W.heap[k]? = some W.heap[k] := by simp [hk']
    rw [e]; exact hk k _ e
  refine ⟨h.os, h.tape, h.output, ?_, hb⟩
  rcases Nat.eq_zero_or_pos W.heap.size with h0 | h0
  · omega
  · have := hb (W.heap.size - 1) (by omega)
    rw [show W.heap[W.heap.size - 1]? = some W.heap[W.heap.size - 1] from by simp [h0]] at this
    have := (Array.getElem?_eq_some_iff.1 this).1
    omega
/-- The call of what a contract speaks of. -/
theorem FnV.law {P : Program} {k : FuncId} {args : List Value} {R : List Fact} {v : Value} (h : FnV P k args R v) (W : World) (hR : ∀ φ ∈ R, Mono φ ∧ φ (full W)) : Calls P k args.toArray W fun e w' => e = .returned v ∧ Below W.heap.size W w' := by
  have hs : St W [] (R ++ [keepF W]) W := St.start W (fun φ hφ => by
    rcases List.mem_append.1 hφ with h1 | h1
    · exact hR φ h1
    · have : φ = keepF W := by simpa using h1
      subst this
      exact ⟨Mono.keep W, keepF_self W⟩)
  exact (h.calls W [] [keepF W] W hs).mono fun e w' ⟨he, hw⟩ => ⟨he, below_of hw⟩

/-! ### a law's end -/
section
variable {H : Type} {en : TypeId × Value → H} {P : Program}
theorem trodAll_stays (hl : laidOutB P = true) {W W' : World} (hb : Below W.heap.size W W') : ∀ {ts : List TypeId} {vs : List Value} {ds : List (DataW H)} {ps : List MemPlace}, (ts.all fun t => P.readableRec t && Nat.blt t P.types.size) = true →
    DataW.TrodAll en P W 0 (fun _ => true) true ts vs ds ps → (∀ p ∈ ps, p.block < W.heap.size) → ∀ sp : Nat → Bool, (∀ p ∈ ps, sp p.block = true) → DataW.TrodAll en P W' 0 sp true ts vs ds ps
  | [], vs, ds, ps, _, h, _, sp, _ => by
    obtain ⟨rfl, rfl, rfl⟩ := trodAll_nil h
    exact rfl
  | t :: ts, vs, ds, ps, ht, h, hp, sp, hsp => by
    obtain ⟨v, vs', d, ds', p, q, rfl, rfl, rfl, h1, h2⟩ := trodAll_cons h
    simp only [List.all_cons, Bool.and_eq_true] at ht
    refine ⟨p, q, ?_, trodAll_stays hl hb ht.2 h2 (fun x hx => hp x (List.mem_append_right _ hx)) sp (fun x hx => hsp x (List.mem_append_right _ hx)), rfl⟩
    exact WideElems.Trod_stays hl ht.1.1 (by simpa using ht.1.2) h1 (fun x hx => hb.same (hp x (List.mem_append_left _ hx))) (fun x hx => hsp x (List.mem_append_left _ hx))
theorem post_of_below {f : Func} {s : ChangeSpec} {W W' : World} {args : Array Value} {ds gs : List (DataW H)} {before : List MemPlace} {tb : TypeId}
    (hW : DataW.Whole en P f.params.toList s.vars false W args.toList ds gs before) (hv : s.vars = []) (hl : laidOutB P = true) (hts : (f.params.toList.all fun t => P.readableRec t && Nat.blt t P.types.size) = true)
    (hr : f.resultTypes = #[tb]) (hb : P.underlying tb = some .bool) (hs : s.fn H ds = { results := [.lit (.bool true)], args := ds, vars := [] }) (hbl : Below W.heap.size W W') : s.post en P f false true false false W args (.bool true) W' := by
  have hW0 := hW
  obtain ⟨p, q, hA, hV, hpq, hz, hn⟩ := hW
  rw [hv] at hV
  obtain ⟨rfl, rfl⟩ := trodVars_none hV
  have hbe : before = p := by simpa using hpq
  subst hbe
  have hlt : ∀ x ∈ before, x.block < W.heap.size := hW0.lt
  have hargs : ∀ sp : Nat → Bool, (∀ x ∈ before, sp x.block = true) → DataW.TrodAll en P W' 0 sp true f.params.toList args.toList ds before := fun sp hsp => trodAll_stays hl hbl hts hA hlt sp hsp
  have hres : ∀ (b : Nat) (sp : Nat → Bool) (hd : Bool), DataW.TrodAll en P W' b sp hd f.resultTypes.toList ((Value.bool true).resultList f.resultTypes.size) [.lit (.bool true)] [] := by
    intro b sp hd
    rw [hr]
    exact trodAll_mk1 (shut_bool hb true)
  have hs' : s.fn H (ds ++ []) = { results := [.lit (.bool true)], args := ds, vars := [] } := by rw [List.append_nil]; exact hs
  have hold : ∀ x ∈ before, (fun b => decide (b < W.heap.size)) x.block = true := fun x hx => by simpa using hlt x hx
  have hargs' : ∀ sp : Nat → Bool, (∀ x ∈ before, sp x.block = true) → DataW.TrodAll en P W' 0 sp true f.params.toList args.toList (s.fn H (ds ++ [])).args before := by rw [hs']; exact hargs
  have hres' : ∀ (b : Nat) (sp : Nat → Bool) (hd : Bool), DataW.TrodAll en P W' b sp hd f.resultTypes.toList ((Value.bool true).resultList f.resultTypes.size) (s.fn H (ds ++ [])).results [] := by rw [hs']; exact hres
  have hvars' : ∀ sp : Nat → Bool, DataW.TrodVars en P W' sp s.vars (s.fn H (ds ++ [])).vars [] := by intro sp; rw [hs', hv]; rfl
  refine ⟨ds, [], before, [], before, [], hW0, hres' _ _ _, hargs' _ hold, hvars' _, hbl.frame _, fun _ => ?_⟩
  refine ⟨ok_one hr rfl (okWide_bool_mk hb true), _, _, ([] ++ before) ++ [], ⟨[] ++ before, [], trodAll_append (hargs' _ (fun _ _ => rfl)) (hres' _ _ _), hvars' _, rfl, ?_, ?_⟩, ?_⟩
  · intro b off hp
    rw [hbl.frozen (hlt _ (by simpa using hp))]
    exact hz b off (by simpa using hp)
  · intro ha; cases ha
  · intro x hx _
    simpa using hx
end
end Go.G


namespace Go.G
theorem o_fnX {P : Program} {α : Type} {W : World} {n : Nat} {D : List Deferred} {L : Tm} {M M1 : List Res} {R : List Fact} {Q : Exit → Act → World → Prop} {o : Oper} {ops : Array Oper} {rest : List Oper} {k : FuncId} {args : List Value} {R0 : List Fact} {r : Res} {g : α → Value} {Pp : α → Prop} {Mr : α → Res} {Rr : α → List Fact} {xs : List Operand} {ts : Array TypeId} {d : Nat} [hM : DelC M r M1]
    (h : FnS P k args [r] R0 (fun e M' R' => ∃ x, e = .returned (g x) ∧ Pp x ∧ M' = [Mr x] ∧ R' = Rr x)) (ho : o.op = .call { callee := .value (.func k), args := xs.toArray, argTypes := ts })
    (hx : evs L xs = some args) (hg : o.guard = none) (hdst : o.dst = some d) (hd : Nat.blt d n = true) (hs : SubR R R0)
    (hret : ∀ x, Pp x → Imp W n D ((d, g x) :: L) (Mr x :: M1) (Rr x ++ R) (wpList P ops Q rest)) : Imp W n D L M R (wpList P ops Q (o :: rest)) := by
  refine o_call h ho [] [] rfl hx (by simp) hg (by simp [okD, hdst, hd]) (Mf := M1) ⟨[], by simpa using hM.del.perm⟩ hs ?_ ?_ ?_
  · rintro v M' R' ⟨x, he, hp, rfl, rfl⟩
    cases he
    rw [hdst]
    exact hret x hp
  · rintro c M' R' ⟨x, he, _⟩; cases he
  · rintro M' R' ⟨x, he, _⟩; cases he
theorem FnS.intro1 {P : Program} {n : Nat} {r : Res} {k : FuncId} {args : List Value} {R0 : List Fact} {Post : Ending → List Res → List Fact → Prop} {fn : Func} {c : Code} (he : ∀ (ag : Array Value) (w : World), (callFunc k ag).run P w = .ok (.enter k ag) w)
    (hf : P.funcs[k]? = some fn) (hb : fn.body = some c) (hn : fn.ntmps = n) (ha : Nat.ble args.length n = true)
    (h : ∀ W Mf Rf, Imp W n [] (argsL args 0) (r :: Mf) (R0 ++ Rf) (c.wp P (bodyPost P fn (RetE W Mf (R0 ++ Rf) Post)))) : FnS P k args [r] R0 Post := FnS.intro he hf hb hn ha h
theorem FnM.to {P : Program} {k : FuncId} {args : List Value} {m : Res} {R0 : List Fact} {u v : Value} (h : FnM P k args m R0 (fun x => x = u)) (e : u = v) : FnM P k args m R0 (fun x => x = v) := e ▸ h
theorem tmod_nat {a b : Nat} : ((a : Int)).tmod (b : Int) = ((a % b : Nat) : Int) := by
  rw [Int.tmod_eq_emod_of_nonneg (by omega)]; omega
theorem all_step {p : Nat → Prop} {k : Nat} (h : ∀ j, j < k → p j) (hk : p k) : ∀ j, j < k + 1 → p j := fun j hj => by
  by_cases e : j = k
  · subst e; exact hk
  · exact h j (by omega)
theorem Imp.run {W : World} {M : List Res} {R : List Fact} {Z : World → Prop} {w : World} (h : Imp W 0 [] [] M R (fun _ w => Z w)) (hw : St W M R w) : Z w := h _ w (FSat.entry (args := []) (n := 0) (Nat.zero_le _)) rfl hw
/-- A struct of which the first fields alone are told. -/
theorem v_bSp {P : Program} {W : World} {n : Nat} {L : Tm} {M : List Res} {R : List Fact} {o : Oper} {T : TypeId} {ps : List (Nat × Operand)} {vs us : List Value} {i : TypeInfo} {z : Value} {fs : Array Field} {pl : List (Nat × Nat)} {cs : List Value} (ho : o.op = .build T ps.toArray) (hT : P.underlying T = some (.struct fs)) (hi : P.info? T = some i) (hp : plT P T = some pl) (hz : i.zero = some z)
    (hx : evs L (ps.map (·.2)) = some vs) (hk : ps.map (·.1) = List.range ps.length) (hpl : PlaceOK (fun k => pl[k]?) 0 0 vs) [hc : CatC vs cs] (hl : cs.length ≤ z.cells.size) (hu : cs ++ z.cells.toList.drop cs.length = us) : OpQ P W n L M R o (.agg us.toArray) :=
  OpQ.of_value fun g w h1 _ => by
    have hq := parts_eq h1 hx hk
    have hf0 : cs = vs.flatMap fun v => v.cells.toList := hc.cat
    obtain ⟨arr, e1, e2⟩ := fill_seq vs 0 0 z.cells hpl (by rw [← hf0]; omega)
    have hf : Instr.fill (fun k => pl[k]?) z.cells ((List.range vs.length).zip vs) = some us.toArray := by
      rw [List.range_eq_range', e1]
      congr 1
      apply Array.ext'
      rw [e2, ← hf0, ← hu]
      simp
    simp only [execOp, ho, Instr.build, Sem.run_bind, run_zeroValue' hi hz, run_underlying hT, Result.andThen_ok, plT_run hT hp w, List.map_toArray, hq]
    simp [hf]
section
variable {P : Program} {W : World} {n : Nat} {D : List Deferred} {L : Tm} {M : List Res} {R : List Fact} {o : Oper}
end
end Go.G


namespace Go.G
/-- It goes on handing out, from J0 to J1 (and says so), or is stopped (and says that). -/
structure FnY (P : Program) (W : World) (k : FuncId) (args : List Value) (J0 J1 Jx : Res) (R0 Rf : List Fact) : Prop where
  enter : ∀ (ag : Array Value) (w : World), (callFunc k ag).run P w = .ok (.enter k ag) w
  calls : ∀ Mf Ri w, St W (J0 :: Mf) ((R0 ++ Ri) ++ Rf) w → Calls P k args.toArray w fun e w' => (e = .returned (.bool true) ∧ St W (J1 :: Mf) ((R0 ++ Ri) ++ Rf) w') ∨ (e = .returned (.bool false) ∧ St W (Jx :: Mf) ((R0 ++ Ri) ++ Rf) w')
def RetY (W : World) (Mf : List Res) (R : List Fact) (J1 Jx : Res) (e : Ending) (w' : World) : Prop := (e = .returned (.bool true) ∧ St W (J1 :: Mf) R w') ∨ (e = .returned (.bool false) ∧ St W (Jx :: Mf) R w')
theorem FnY.intro {P : Program} {W : World} {n : Nat} {k : FuncId} {args : List Value} {J0 J1 Jx : Res} {R0 Rf : List Fact} {fn : Func} {c : Code} (he : ∀ (ag : Array Value) (w : World), (callFunc k ag).run P w = .ok (.enter k ag) w)
    (hf : P.funcs[k]? = some fn) (hb : fn.body = some c) (hn : fn.ntmps = n) (ha : Nat.ble args.length n = true)
    (h : ∀ Mf Ri, Imp W n [] (argsL args 0) (J0 :: Mf) ((R0 ++ Ri) ++ Rf) (c.wp P (bodyPost P fn (RetY W Mf ((R0 ++ Ri) ++ Rf) J1 Jx)))) : FnY P W k args J0 J1 Jx R0 Rf := by
  refine ⟨he, fun M Ri w hw => calls_of_wp hf hb ?_⟩
  rw [hn]
  exact h M Ri _ w (FSat.entry (Nat.le_of_ble_eq_true ha)) rfl hw
theorem FnY.introM {P : Program} {W : World} {n : Nat} {k : FuncId} {args : List Value} {J0 J1 Jx : Res} {R0 Rf : List Fact} {fn : Func} {c : Code} (he : ∀ (ag : Array Value) (w : World), (callFunc k ag).run P w = .ok (.enter k ag) w)
    (hf : P.funcs[k]? = some fn) (hb : fn.body = some c) (hn : fn.ntmps = n) (ha : Nat.ble args.length n = true)
    (h : ∀ Mf Ri, Imp W n [] (argsL args 0) (J0 :: Mf) ((R0 ++ Ri) ++ Rf) (c.wp P (bodyPostM Fence.wide 0 P fn (RetY W Mf ((R0 ++ Ri) ++ Rf) J1 Jx)))) : FnY P W k args J0 J1 Jx R0 Rf := by
  refine ⟨he, fun M Ri w hw => (callsIn_wide (n := 0)).1 (callsIn_of_wp_marks hf hb trivial (wpIn_wide.2 ?_))⟩
  rw [hn]
  exact h M Ri _ w (FSat.entry (Nat.le_of_ble_eq_true ha)) rfl hw
section
variable {P : Program} {W : World} {n : Nat} {D : List Deferred} {L : Tm} {M : List Res} {R : List Fact} {Q : Exit → Act → World → Prop} {o : Oper}
theorem r_yes {fn : Func} {Mf : List Res} {J1 Jx : Res} {R0 : List Fact} (hr : Rd P W n L M R fn (.bool true)) (hM : SelM M (J1 :: Mf)) (hR : SubR R R0) : Imp W n [] L M R (bodyPost P fn (RetY W Mf R0 J1 Jx) .ret) :=
  fun a w h1 h2 h3 => ⟨h2, _, hr a w h1 h3, .inl ⟨rfl, (h3.sel hM).weak hR⟩⟩
theorem r_no {fn : Func} {Mf : List Res} {J1 Jx : Res} {R0 : List Fact} (hr : Rd P W n L M R fn (.bool false)) (hM : SelM M (Jx :: Mf)) (hR : SubR R R0) : Imp W n [] L M R (bodyPost P fn (RetY W Mf R0 J1 Jx) .ret) :=
  fun a w h1 h2 h3 => ⟨h2, _, hr a w h1 h3, .inr ⟨rfl, (h3.sel hM).weak hR⟩⟩
/-- A call of such a closure. -/
theorem o_fnY {ops : Array Oper} {rest : List Oper} {k : FuncId} {args : List Value} {J0 J1 Jx : Res} {R0 Rx Rf : List Fact} {f : Operand} {xs : List Operand} {ts : Array TypeId} {vs caps : List Value} {d : Nat} {M1 : List Res}
    (h : FnY P W k args J0 J1 Jx R0 Rf) (ho : o.op = .call { callee := .value f, args := xs.toArray, argTypes := ts }) (hf : ev L f = some (.func (.func k) #[] caps.toArray))
    (hx : evs L xs = some vs) (ha : vs ++ caps = args) (hg : o.guard = none) (hdst : o.dst = some d) (hd : Nat.blt d n = true) (hs : SubR Rx R0) [hM : DelC M J0 M1]
    (h1 : Imp W n D ((d, .bool true) :: L) (J1 :: M1) (Rx ++ Rf) (wpList P ops Q rest)) (h2 : Imp W n D ((d, .bool false) :: L) (Jx :: M1) (Rx ++ Rf) (wpList P ops Q rest)) : Imp W n D L M (Rx ++ Rf) (wpList P ops Q (o :: rest)) := by
  intro a w g1 g2 g3
  refine wpList_plain hg fun K hK => ?_
  unfold Oper.wp
  rw [exec_call [] caps ho (by simpa using g1.ev hf) (g1.evs hx) h.enter, List.nil_append, ha]
  have g4 : St W (J0 :: M1) ((R0 ++ Rx) ++ Rf) w := (g3.perm hM.del.perm).weak (fun φ hφ => by
    rcases List.mem_append.1 hφ with hφ | hφ
    · rcases List.mem_append.1 hφ with hφ | hφ
      · exact List.mem_append_left _ (hs φ hφ)
      · exact List.mem_append_left _ hφ
    · exact List.mem_append_right _ hφ)
  refine (h.calls M1 Rx w g4).mono ?_
  have wk : ∀ {w' : World} {M' : List Res}, St W M' ((R0 ++ Rx) ++ Rf) w' → St W M' (Rx ++ Rf) w' := fun hw => hw.weak (fun φ hφ => by
    rcases List.mem_append.1 hφ with hφ | hφ
    · exact List.mem_append_left _ (List.mem_append_right _ hφ)
    · exact List.mem_append_right _ hφ)
  rintro e w' (⟨rfl, hw⟩ | ⟨rfl, hw⟩)
  · show K (a.put o.dst _) w'
    rw [hdst]
    exact hK _ _ (h1 _ w' (g1.put (by simpa using hd) _) (by rw [put_defers]; exact g2) (wk hw))
  · show K (a.put o.dst _) w'
    rw [hdst]
    exact hK _ _ (h2 _ w' (g1.put (by simpa using hd) _) (by rw [put_defers]; exact g2) (wk hw))
/-- Stopped at one of N. -/
def jxR (Jx : Nat → Res) (N : Nat) : Res := exR fun i : { i : Nat // i ≤ N ∧ 1 ≤ i } => [Jx i.1]
theorem Imp.jx_pk {Jx : Nat → Res} {N i : Nat} {X : Act → World → Prop} {M' : List Res} [hM : DelC M (Jx i) M'] (hi : i ≤ N ∧ 1 ≤ i) (h : Imp W n D L (jxR Jx N :: M') R X) : Imp W n D L M R X :=
  fun a w h1 h2 h3 => h a w h1 h2 (St.pk (N := fun i : { i : Nat // i ≤ N ∧ 1 ≤ i } => [Jx i.1]) ⟨i, hi⟩ (h3.perm hM.del.perm))
theorem r_retseqJ {fn : Func} {J Jx : Nat → Res} {N : Nat} {R0 : List Fact} {v : Value} (hr : ∀ i, Rd P W n L [Jx i] R fn v) (hM : SelM M [jxR Jx N]) (hR : SubR R R0) : Imp W n [] L M R (bodyPost P fn (RetSeq W J Jx N R0) .normal) := by
  intro a w h1 h2 h3
  obtain ⟨i, h4⟩ := St.unpk (h3.sel hM)
  exact ⟨h2, v, hr i.1 a w h1 h4, ⟨v, rfl⟩, .inr ⟨i.1, i.2.1, i.2.2, h4.weak hR⟩⟩
end
end Go.G


namespace Go.G
theorem v_sliceL {P : Program} {W : World} {n : Nat} {L : Tm} {M : List Res} {R : List Fact} {o : Oper} {T : TypeId} {x : Operand} {y : Operand} {b off h l c : Nat} {e : TypeId} {i : TypeInfo} (ho : o.op = .slice T x (some y) none none) (hT : P.underlying T = some (.slice e)) (hi : P.info? e = some i) (hx : ev L x = some (.slice (some ⟨b, off, none⟩) l c)) (hy : ev L y = some (.int .i64 (h : Int))) (hh : h ≤ l) (hn : h < c) :
    OpQ P W n L M R o (.slice (some ⟨b, off + h * i.size, none⟩) (l - h) (c - h)) :=
  OpQ.of_value fun f w h1 _ => by
    have e0 := h1.ev hx
    have e1 := h1.ev hy
    have this : ∀ ρ : Operand → Value, ρ x = .slice (some ⟨b, off, none⟩) l c → ρ y = .int .i64 (h : Int) → (execOp ρ o).run P w = .ok (.value (.slice (some ⟨b, off + h * i.size, none⟩) (l - h) (c - h))) w := by
      intro ρ e0 e1
      simp [execOp, ho, e0, e1, Instr.sliceAt, Instr.slice, run_underlying hT, Instr.sliceBounds, Instr.sliceBound, asIntOf, hh, run_sizeOf' hi, Addr.add]
      rw [if_neg (by omega)]
      congr 1
      split
      · rename_i hz; rw [hz]; rfl
      · rfl
    exact this _ e0 e1
end Go.G


namespace Sod2
open Go Go.G Foot4
def InC (c : T3) : Prop := ∀ k, k < 3 → 0 ≤ c.at k ∧ c.at k ≤ 6
theorem mul_bd {a b A : Int} (ha : 0 ≤ a) (hA : a ≤ A) (hb : 0 ≤ b) (hB : b ≤ 6) : 0 ≤ a * b ∧ a * b ≤ A * 6 := by
  refine ⟨Int.mul_nonneg ha hb, ?_⟩
  have h1 : a * b ≤ A * b := Int.mul_le_mul_of_nonneg_right hA hb
  have h2 : A * b ≤ A * 6 := Int.mul_le_mul_of_nonneg_left hB (by omega)
  omega
theorem strS_bd {B : Bank} {c : T3} {s : Int} (hb : BndS B) (hc : InC c) (hs : 0 ≤ s) : ∀ k, k ≤ 3 → (0 ≤ (strS B c s k).1 ∧ (strS B c s k).1 ≤ 180 * k) ∧ 0 ≤ (strS B c s k).2 ∧ (strS B c s k).2 ≤ s
  | 0, _ => ⟨⟨Int.le_refl _, by show (0 : Int) ≤ _; omega⟩, hs, Int.le_refl _⟩
  | k + 1, h => by
    obtain ⟨⟨h1, h2⟩, h3, h4⟩ := strS_bd hb hc hs k (by omega)
    have h5 := hb.spit k
    have h6 := hc k (by omega)
    have h7 := mul_bd (a := min (strS B c s k).2 (B.spits.getD k default).sods) (A := 30) (by omega) (by omega) h6.1 h6.2
    simp only [strS]
    push_cast
    omega
theorem strokes_bd {B : Bank} {c : T3} {s : Int} (hg : GoodS B) (hc : InC c) (hs : 0 ≤ s) : 0 ≤ strokes B c s ∧ strokes B c s ≤ 1048576 := by
  have h3 := hg.1
  have := strS_bd hg.bnd hc hs B.spits.length (by omega)
  unfold strokes
  split <;> omega
@[reducible] def v3 (c : T3) : Value := .agg #[i64 c.a, i64 c.b, i64 c.c]
@[reducible] def vS (s : Span) : Value := .agg #[i64 s.lo, i64 s.hi]
def comS (x y : Span) : Span := ⟨max x.lo y.lo, min x.hi y.hi⟩
/-- Numbers that are small. -/
def SmS (s : Span) : Prop := -4000000 ≤ s.lo ∧ s.lo ≤ 4000000 ∧ -4000000 ≤ s.hi ∧ s.hi ≤ 4000000
/-- What a log leaves. -/
def one (B : Bank) (c : T3) (l : LogS) (m : Span) : Span := comS m ⟨strokes B c l.lo, strokes B c (l.hi + 1) - 1⟩
theorem cntTo_y {B : Bank} {c : T3} {d : Nat} {m : Span} {k : Nat} (h : (B.logs.getD k default).day = d) : cntTo B c d m (k + 1) = one B c (B.logs.getD k default) (cntTo B c d m k) := by
  rw [cntTo, if_pos h]; rfl
theorem cntTo_n {B : Bank} {c : T3} {d : Nat} {m : Span} {k : Nat} (h : ¬ (B.logs.getD k default).day = d) : cntTo B c d m (k + 1) = cntTo B c d m k := by
  rw [cntTo, if_neg h]
/-- The numbers of the forward pass. -/
def FwB (s : Span) (d : Nat) : Prop := 0 ≤ s.lo ∧ s.lo ≤ 1048576 + 100 * d ∧ -1 ≤ s.hi ∧ s.hi ≤ 100 * d
theorem cntTo_bd {B : Bank} {c : T3} {d e : Nat} {m : Span} (hg : GoodS B) (hc : InC c) (hm : FwB m e) (k : Nat) (h : k ≤ B.logs.length) : FwB (cntTo B c d m k) e := by
  induction k with
  | zero => exact hm
  | succ k ih =>
    have h1 := ih (by omega)
    have h2 := hg.bnd.log k
    by_cases hd : (B.logs.getD k default).day = d
    · rw [cntTo_y hd]
      have h3 := strokes_bd (c := c) hg hc (s := (B.logs.getD k default).lo) (by omega)
      have h4 := strokes_bd (c := c) hg hc (s := (B.logs.getD k default).hi + 1) (by omega)
      unfold FwB one comS at *
      simp only
      omega
    · rw [cntTo_n hd]; exact h1
theorem nowF_bd {B : Bank} {c : T3} (hg : GoodS B) (hc : InC c) : ∀ d, FwB (nowF B c d) d
  | 0 => by unfold FwB nowF; simp only; omega
  | d + 1 => by
    have h1 := nowF_bd hg hc d
    have h2 := hg.bnd.day d
    refine cntTo_bd hg hc ?_ _ (Nat.le_refl _)
    unfold FwB at *
    simp only
    push_cast
    omega
theorem FwB.sm {s : Span} {d : Nat} (h : FwB s d) (hd : d ≤ 10) : SmS s := by unfold FwB at h; unfold SmS; omega
theorem bk_bd {B : Bank} {c : T3} (hg : GoodS B) (hc : InC c) : ∀ j : Nat, j ≤ 6 → (-1 - 100 * (j : Int) ≤ (bk B c j).hi ∧ (bk B c j).hi ≤ 1000 ∧ 0 ≤ (bk B c j).lo ∧ (bk B c j).lo ≤ 2000000)
  | 0, _ => by
    have h1 := nowF_bd hg hc B.days.length
    have h2 := hg.2.1
    unfold FwB at h1
    rw [bk]; omega
  | j + 1, h => by
    have h1 := bk_bd hg hc j (by omega)
    have h2 := nowF_bd hg hc (B.days.length - 1 - j)
    have h3 := hg.bnd.day (B.days.length - 1 - j)
    have h4 := hg.2.1
    unfold FwB at h2
    rw [bk]
    simp only
    push_cast
    omega
end Sod2

