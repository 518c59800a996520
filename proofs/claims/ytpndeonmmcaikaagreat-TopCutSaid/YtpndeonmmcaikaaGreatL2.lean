/- Part 2 of 6 of what the proofs of this seat stand on: a small logic for walks, what the functions come to, and the walks themselves. No condition of its own. -/
import Derived.Test.YtpndeonmmcaikaaGreatL1
import Derived.Laws.MakeOwn
import Derived.Laws.CopyRow
import Derived.ChangeKeysEq
import Derived.Maps.Keyed
import Derived.OrdersIn
set_option linter.unusedVariables false
set_option linter.unusedSimpArgs false
set_option linter.unusedSectionVars false
namespace Go.G
variable {P : Program} {W : World} {n : Nat} {D : List Deferred} {L : Tm} {M : List Res} {R : List Fact} {Q : Exit → Act → World → Prop} {o : Oper}
def sblk : Value → Nat
  | .slice (some a) _ _ => a.block
  | _ => 0
theorem p_lit {ops : Array Oper} {K : List Spc → Prop} {rest : List Oper} {acc : List Spc} {t e : TypeId} {ps : List (Nat × Operand)} {vs : List Value} {len : Nat} {i : TypeInfo} {z : Value} {cs : List Value} {d : Nat} (ho : o.op = .buildSlice t len ps.toArray) (ht : P.underlying t = some (.slice e)) (hi : P.info? e = some i) (hz : i.zero = some z)
    (hbig : Nat.ble (len * i.size) 16777216 = true) (hpos : Nat.beq (len * i.size) 0 = false) (hg : o.guard = none) (hdst : o.dst = some d) (hd : Nat.blt d n = true)
    (hx : evs L (ps.map (·.2)) = some vs) (hk : ps.map (·.1) = List.range ps.length) (hp : PlaceOK (fun k => some (k * i.size, i.size)) 0 0 vs) [hc : CatC vs cs] (hl : cs.length = len * i.size)
    (hr : ParO P W n M R ops K rest (acc ++ [Spc.g (fun v => v = .slice (some ⟨sblk v, 0, none⟩) len len) (fun _ => []) (fun v => [boxF (sblk v) e cs])]) L) : ParO P W n M R ops K (o :: rest) acc L := by
  refine ⟨Spc.g (fun v => v = .slice (some ⟨sblk v, 0, none⟩) len len) (fun _ => []) (fun v => [boxF (sblk v) e cs]), by simp [hdst, hd], .inl ⟨rfl, .inl ⟨.inl hg, ?_⟩⟩, by simpa [addL, Spc.g] using hr⟩
  intro Mx Rx a w g1 g3
  have hu := parts_eq g1 hx hk
  have hb1 : ¬ (2 ^ 24 < len * i.size) := by
    have : len * i.size ≤ 16777216 := by simpa using hbig
    omega
  have hb2 : ¬ (len * i.size = 0) := fun e => by rw [e] at hpos; cases hpos
  have hf := fill_all (cells := (Array.range (len * i.size)).map (fun k => z.cells[k % z.cells.size]!)) hp hc.cat (by simpa using hl)
  have hrun : (execOp a.eval o).run P w = .ok (.value (.slice (some ⟨w.heap.size, 0, none⟩) len len)) (w.alloc (.cells cs.toArray e)) := by
    simp only [execOp, ho, Instr.buildSlice, Sem.run_bind, run_underlying ht, run_sizeOf' hi, Result.andThen_ok, gt_iff_lt, hb1, hb2, if_false, run_zeroValue' hi hz, Sem.run_pure, List.map_toArray, hu, hf]
    simp [newRow, newObj, Sem.run]
  rw [hrun]
  refine ⟨rfl, ?_⟩
  have h4 : St W (bx w.heap.size e cs :: (Mx ++ M)) (Rx ++ R) (w.alloc (.cells cs.toArray e)) := g3.push _
  refine (h4.seal_.derive (ψ := boxF w.heap.size e cs) fun V hV => ?_).weak ?_
  · obtain ⟨s, hs, hp⟩ := hV (sealed (bx w.heap.size e cs)) (by simp)
    have hs' : s = [(w.heap.size, .cells cs.toArray e (0, 0))] := hs
    subst hs'
    exact hp (w.heap.size, .cells cs.toArray e (0, 0)) (by simp)
  · intro φ hφ
    rcases List.mem_append.1 hφ with h | h
    · have : φ = boxF w.heap.size e cs := by simpa [Spc.fs, Spc.g, sblk] using h
      subst this; simp
    · exact List.mem_cons_of_mem _ (List.mem_cons_of_mem _ h)
theorem p_dep {ops : Array Oper} {K : List Spc → Prop} {rest : List Oper} {acc : List Spc} {d : Nat} {v : Value} (j : Nat) {oj : Oper} {sj : Spc} (hoj : ops[j]? = some oj) (hsj : acc[j]? = some sj) (hdj : sj.det = none) (hdep : depD ops o j = true) (hg : o.guard = none) (hdst : o.dst = some d) (hd : Nat.blt d n = true)
    (ho : ∀ u, sj.pval u → ∀ Mx Rx, OpQ P W n ((oj.dst.getD 1000000, u) :: L) (Mx ++ M) (Rx ++ (sj.fct u ++ R)) o v) (h : ParO P W n M R ops K rest (acc ++ [Spc.q v]) ((d, v) :: L)) : ParO P W n M R ops K (o :: rest) acc L :=
  ⟨Spc.q v, by simp [hdst, hd], .inl ⟨rfl, .inr (.inr (.inl ⟨hg, j, oj, sj, hoj, hsj, hdj, hdep, fun u hu => OpG.of_q (ho u hu)⟩))⟩, by simpa [addL, Spc.q, hdst] using h⟩
theorem Imp.ownBox {α : Type} {enc : α → List Value} {sz : Nat} {T : TypeId} {cs : List Value} {M' : List Res} {X : Act → World → Prop} (b : Nat) (xs : List α) [hd : DelBox b M T cs M'] (e : cs = xs.flatMap enc) (hl : cs.length = xs.length * sz) (hm : xs.length ≤ maxLen)
    (h : Imp W n D L (ownL (.slice (some ⟨b, 0, none⟩) xs.length xs.length) T sz enc xs :: M') R X) : Imp W n D L M R X := by
  intro a w h1 h2 h3
  refine h a w h1 h2 ?_
  have h4 : St W (bx b T cs :: M') R w := h3.perm hd.del.perm
  obtain ⟨s, ⟨s1, s2, rfl, hs1, hM⟩, hO, hR⟩ := h4.mem
  refine ⟨h4.os, h4.tape, h4.output, s1 ++ s2, ⟨s1, s2, rfl, ?_, hM⟩, hO, hR⟩
  have hs' : s1 = [(b, .cells cs.toArray T (0, 0))] := hs1
  subst e
  refine ⟨hl, .inr ⟨b, xs.length, (xs.flatMap enc).toArray, rfl, Nat.le_refl _, hm, by simpa using hl, ?_, hs'⟩⟩
  rw [← hl]; exact List.take_length
end Go.G

namespace Go.G
variable {P : Program} {W : World} {n : Nat} {D : List Deferred} {L : Tm} {M : List Res} {R : List Fact} {Q : Exit → Act → World → Prop} {o : Oper}
instance (priority := 90) DelC.app {A M M' : List Res} {r : Res} [h : DelC M r M'] : DelC (A ++ M) r (A ++ M') := ⟨by
  obtain ⟨X, Y, h1, h2⟩ := h.del
  exact ⟨A ++ X, Y, by simp [h1], by simp [h2]⟩⟩
theorem OpQ.fnm {k : FuncId} {args : List Value} {m : Res} {R0 : List Fact} {v : Value} {f : Operand} {xs : List Operand} {ts : Array TypeId} {vs : List Value} {M' : List Res}
    (h : FnM P k args m R0 (fun u => u = v)) (ho : o.op = .call { callee := .value f, args := xs.toArray, argTypes := ts }) (first captured : List Value) (hf : ev L f = some (.func (.func k) first.toArray captured.toArray))
    (hx : evs L xs = some vs) (ha : first ++ vs ++ captured = args) (hs : SubR R R0) [hM : DelC M m M'] : OpQ P W n L M R o v := by
  intro a w h1 h2
  unfold Oper.quietAt
  rw [exec_call first captured ho (h1.ev hf) (h1.evs hx) h.enter, ha]
  exact ⟨rfl, (h.use hs hM.del h2).mono fun e w' ⟨u, he, hu, hs'⟩ => ⟨by rw [he, hu], hs'⟩⟩
theorem v_cast {u v : Value} (h : OpQ P W n L M R o u) (e : u = v) : OpQ P W n L M R o v := e ▸ h
theorem FnV.pre {k : FuncId} {args : List Value} {R1 R2 : List Fact} {v : Value} (h : FnV P k args R1 v) (hd : ∀ V, (∀ φ ∈ R2, φ V) → ∀ φ ∈ R1, φ V) : FnV P k args R2 v := by
  refine ⟨h.enter, fun W M Rf w hw => ?_⟩
  have key : ∀ (S : List Fact), (∀ φ ∈ S, φ ∈ R1) → St W M (S ++ (R2 ++ Rf)) w := by
    intro S
    induction S with
    | nil => intro _; exact hw
    | cons φ S ih =>
      intro hS
      exact (ih (fun ψ hψ => hS ψ (by simp [hψ]))).derive fun V hV => hd V (fun ψ hψ => hV ψ (by simp [hψ])) φ (hS φ (by simp))
  exact (h.calls W M (R2 ++ Rf) w (key R1 (fun _ h => h))).mono fun e w' ⟨he, hs⟩ => ⟨he, hs.weak fun φ hφ => List.mem_append_right _ hφ⟩
theorem o_app1F {α : Type} {enc : α → List Value} {sz : Nat} {v : Value} {xs : List α} {M' : List Res} {ops : Array Oper} {rest : List Oper} {s x : Operand} {t e B : TypeId} {i : TypeInfo} {z : Value} {c d b : Nat} {news : List Value} [hM : HasOwn v M e sz enc xs M'] [hm : HasBoxF b R B news] (y : α) (ho : o.op = .call { callee := .builtin .append, args := #[s, x], argTypes := #[t, t] })
    (ht : P.underlying t = some (.slice e)) (hi : P.info? e = some i) (hz : i.zero = some z) (hsz : i.size = sz) (hzs : z.cells.size = sz) (hg : o.guard = none) (hdst : o.dst = some d) (hd : Nat.blt d n = true)
    (hs : ev L s = some v) (hx : ev L x = some (.slice (some ⟨b, 0, none⟩) 1 c)) (hy : news = enc y) (hl : news.length = sz) (h1 : oneCells news = true) (hbd : xs.length ≤ 1000000 ∧ i.bytes ≤ 1000000)
    (h : ∀ v', Imp W n D ((d, v') :: L) (ownL v' e sz enc (xs ++ [y]) :: M') R (wpList P ops Q rest)) : Imp W n D L M R (wpList P ops Q (o :: rest)) := by
  subst hy
  have hby : (xs.length + 1) * i.bytes ≤ 140737488355328 := by
    have : (xs.length + 1) * i.bytes ≤ 1000001 * 1000000 := Nat.mul_le_mul (by omega) hbd.2
    omega
  intro a w g1 g2 g3
  refine wpList_plain hg fun K hK => ?_
  unfold Oper.wp
  have hM' : Del M (own v e sz xs.length (xs.flatMap enc)) M' := hM.del
  obtain ⟨v', w', hr, hw'⟩ := run_append (P := P) (ty := o.type) (c := c) (k := 1) g3 ht hi hz hsz hzs (fun j u hu => by rw [add_at, g3.cellF hm.mem, Nat.zero_add]; exact hu) (by simpa using hl) (oneCells_mem h1) (by simp only [maxLen]; omega) hby hM'
  have hrun : (execOp a.eval o).run P w = .ok (.value v') w' := by
    unfold execOp
    simp only [ho, resolve, invoke, builtin, Sem.run_bind, Sem.run_pure, Result.andThen_ok, List.map_toArray, List.map_cons, List.map_nil, g1.ev hs, g1.ev hx, hr]
  rw [hrun, Oper.upon_value, hdst]
  have h5 := h v'
  unfold ownL at h5
  refine hK _ _ (h5 _ w' (g1.put (by simpa using hd) v') (by rw [put_defers]; exact g2) ?_)
  simpa using hw'
theorem o_lookupD {ops : Array Oper} {rest : List Oper} {T k e : TypeId} {x y : Operand} {b d : Nat} {kv z : Value} {l : Lit} {i : TypeInfo} {ok : Value → Value → Prop} {M' : List Res} [hM : DelC M (memo P k ok b) M'] (v : Value) (hv : ∀ u, ok kv u → u = v) (hl : WideMaps.KeyLaw P k) (hk : keyOf P k kv = some l)
    (ho : o.op = .lookup T x y true) (hT : P.underlying T = some (.map k e)) (hi : P.info? e = some i) (hz : i.zero = some z) (hg : o.guard = none) (hdst : o.dst = some d) (hd : Nat.blt d n = true)
    (hx : ev L x = some (.map (some b))) (hy : ev L y = some kv)
    (hyes : Imp W n D ((d, .tuple #[v, .bool true]) :: L) M R (wpList P ops Q rest)) (hno : Imp W n D ((d, .tuple #[z, .bool false]) :: L) M R (wpList P ops Q rest)) : Imp W n D L M R (wpList P ops Q (o :: rest)) :=
  o_lookup hl hk ho hT hi hz hg hdst hd hx hy (fun u hu => by rw [hv u hu]; exact hyes) hno
abbrev Spc.lit (len : Nat) (e : TypeId) (cs : List Value) : Spc := Spc.g (fun v => v = .slice (some ⟨sblk v, 0, none⟩) len len) (fun _ => []) (fun v => [boxF (sblk v) e cs])
theorem p_depLit {ops : Array Oper} {K : List Spc → Prop} {rest : List Oper} {acc : List Spc} {d : Nat} {v : Value} (j : Nat) {oj : Oper} {len : Nat} {e : TypeId} {cs : List Value} (hoj : ops[j]? = some oj) (hsj : acc[j]? = some (Spc.lit len e cs)) (hdep : depD ops o j = true) (hg : o.guard = none) (hdst : o.dst = some d) (hd : Nat.blt d n = true)
    (ho : ∀ b Mx Rx, OpQ P W n ((oj.dst.getD 1000000, .slice (some ⟨b, 0, none⟩) len len) :: L) (Mx ++ M) (Rx ++ (boxF b e cs :: R)) o v) (h : ParO P W n M R ops K rest (acc ++ [Spc.q v]) ((d, v) :: L)) : ParO P W n M R ops K (o :: rest) acc L :=
  p_dep j hoj hsj rfl hdep hg hdst hd (fun u hu Mx Rx => by
    have := ho (sblk u) Mx Rx
    rw [← (show u = .slice (some ⟨sblk u, 0, none⟩) len len from hu)] at this
    exact this) h
theorem p_acc {ops : Array Oper} {K : List Spc → Prop} {l : List Oper} {acc acc' : List Spc} (e : acc = acc') (h : ParO P W n M R ops K l acc' L) : ParO P W n M R ops K l acc L := by
  subst e; exact h
theorem f_lit {X : Act → World → Prop} {os : List Oper} {ss : List Spc} {len : Nat} {e : TypeId} {cs : List Value} {d : Nat} (hdst : o.dst = some d) (h : ∀ b, Fin W n D X os ss ((d, .slice (some ⟨b, 0, none⟩) len len) :: L) M (boxF b e cs :: R)) : Fin W n D X (o :: os) (Spc.lit len e cs :: ss) L M R :=
  f_g hdst (fun v hv => by
    have := h (sblk v)
    rw [← (show v = .slice (some ⟨sblk v, 0, none⟩) len len from hv)] at this
    exact this)
theorem Imp.settleS {α : Type} {enc : α → List Value} {sz : Nat} {T : TypeId} {xs : List α} {M' : List Res} {X : Act → World → Prop} (v : Value) [hd : HasOwn v M T sz enc xs M'] (henc : ∀ x, (enc x).length = sz) (h : ∀ oa cap, v = .slice oa xs.length cap → Imp W n D L M' (rowD oa sz enc xs :: R) X) : Imp W n D L M R X :=
  Imp.settleL v henc (fun hs => by
    obtain ⟨oa, cap, rfl⟩ := hs
    exact h oa cap rfl)
end Go.G

namespace Go.G
variable {P : Program} {W : World} {n : Nat} {D : List Deferred} {L : Tm} {M : List Res} {R : List Fact} {Q : Exit → Act → World → Prop} {o : Oper}
def Mono (φ : Fact) : Prop := ∀ V V', φ V → Le V V' → φ V'
theorem Mono.box (b : Nat) (T : TypeId) (vs : List Value) : Mono (boxF b T vs) := fun _ _ h hl => hl _ _ h
theorem Mono.row {α : Type} (oa : Option Addr) (sz : Nat) (enc : α → List Value) (xs : List α) : Mono (rowD oa sz enc xs) := fun _ _ h hl => by
  rcases h with h | ⟨b, off, C, T, fr, h1, h2, h3⟩
  · exact .inl h
  · exact .inr ⟨b, off, C, T, fr, h1, hl _ _ h2, h3⟩
theorem Mono.and {φ ψ : Fact} (h : Mono φ) (k : Mono ψ) : Mono (fun V => φ V ∧ ψ V) := fun V V' x hl => ⟨h V V' x.1 hl, k V V' x.2 hl⟩
theorem Imp.exF {α : Type} {φ : α → Fact} {X : Act → World → Prop} (hm : (fun V => ∃ x, φ x V) ∈ R) (hst : ∀ x, Mono (φ x)) (h : ∀ x, Imp W n D L M (φ x :: R) X) : Imp W n D L M R X := by
  intro a w h1 h2 h3
  obtain ⟨s, hS, hO, hR⟩ := h3.mem
  obtain ⟨x, hx⟩ := hR _ hm _ (Le.refl _)
  refine h x a w h1 h2 ⟨h3.os, h3.tape, h3.output, s, hS, hO, ?_⟩
  intro ψ hψ
  rcases List.mem_cons.1 hψ with rfl | hψ
  · exact fun V' hl => hst x _ _ hx hl
  · exact hR ψ hψ
theorem OpG_lit {t e : TypeId} {ps : List (Nat × Operand)} {vs : List Value} {len : Nat} {i : TypeInfo} {z : Value} {cs : List Value} (ho : o.op = .buildSlice t len ps.toArray) (ht : P.underlying t = some (.slice e)) (hi : P.info? e = some i) (hz : i.zero = some z)
    (hbig : Nat.ble (len * i.size) 16777216 = true) (hpos : Nat.beq (len * i.size) 0 = false)
    (hx : evs L (ps.map (·.2)) = some vs) (hk : ps.map (·.1) = List.range ps.length) (hp : PlaceOK (fun k => some (k * i.size, i.size)) 0 0 vs) [hc : CatC vs cs] (hl : cs.length = len * i.size) : OpG P W n L M R o (Spc.lit len e cs) := by
  intro Mx Rx a w g1 g3
  have hu := parts_eq g1 hx hk
  have hb1 : ¬ (2 ^ 24 < len * i.size) := by
    have : len * i.size ≤ 16777216 := by simpa using hbig
    omega
  have hb2 : ¬ (len * i.size = 0) := fun e => by rw [e] at hpos; cases hpos
  have hf := fill_all (cells := (Array.range (len * i.size)).map (fun k => z.cells[k % z.cells.size]!)) hp hc.cat (by simpa using hl)
  have hrun : (execOp a.eval o).run P w = .ok (.value (.slice (some ⟨w.heap.size, 0, none⟩) len len)) (w.alloc (.cells cs.toArray e)) := by
    simp only [execOp, ho, Instr.buildSlice, Sem.run_bind, run_underlying ht, run_sizeOf' hi, Result.andThen_ok, gt_iff_lt, hb1, hb2, if_false, run_zeroValue' hi hz, Sem.run_pure, List.map_toArray, hu, hf]
    simp [newRow, newObj, Sem.run]
  rw [hrun]
  refine ⟨rfl, ?_⟩
  have h4 : St W (bx w.heap.size e cs :: (Mx ++ M)) (Rx ++ R) (w.alloc (.cells cs.toArray e)) := g3.push _
  refine (h4.seal_.derive (ψ := boxF w.heap.size e cs) fun V hV => ?_).weak ?_
  · obtain ⟨s, hs, hp⟩ := hV (sealed (bx w.heap.size e cs)) (by simp)
    have hs' : s = [(w.heap.size, .cells cs.toArray e (0, 0))] := hs
    subst hs'
    exact hp (w.heap.size, .cells cs.toArray e (0, 0)) (by simp)
  · intro φ hφ
    rcases List.mem_append.1 hφ with h | h
    · have : φ = boxF w.heap.size e cs := by simpa [Spc.fs, Spc.g, sblk] using h
      subst this; simp
    · exact List.mem_cons_of_mem _ (List.mem_cons_of_mem _ h)
def slF {α : Type} (b : Nat) (e : TypeId) (m sz : Nat) (enc : α → List Value) (ys : List α) : Fact := fun V => ∃ x : Option Addr × Nat, boxF b e [.slice x.1 m x.2] V ∧ rowD x.1 sz enc ys V
abbrev Spc.sl {α : Type} (m sz : Nat) (enc : α → List Value) (ys : List α) : Spc := Spc.g (isSl m) (fun _ => []) (fun v => [rowD (adr v) sz enc ys])
abbrev Spc.slsl {α : Type} (e : TypeId) (m sz : Nat) (enc : α → List Value) (ys : List α) : Spc := Spc.g (fun v => v = .slice (some ⟨sblk v, 0, none⟩) 1 1) (fun _ => []) (fun v => [slF (sblk v) e m sz enc ys])
theorem p_depSl {α : Type} {ops : Array Oper} {K : List Spc → Prop} {rest : List Oper} {acc : List Spc} {d : Nat} {t e : TypeId} {i : TypeInfo} {z : Value} {x : Nat} (j : Nat) {oj : Oper} {m sz : Nat} {enc : α → List Value} {ys : List α} (hoj : ops[j]? = some oj) (hsj : acc[j]? = some (Spc.sl m sz enc ys)) (hdep : depD ops o j = true) (hg : o.guard = none) (hdst : o.dst = some d) (hd : Nat.blt d n = true)
    (ho : o.op = .buildSlice t 1 [(0, Operand.tmp x)].toArray) (hx : oj.dst.getD 1000000 = x) (ht : P.underlying t = some (.slice e)) (hi : P.info? e = some i) (hz : i.zero = some z) (h1 : i.size = 1)
    (h : ParO P W n M R ops K rest (acc ++ [Spc.slsl e m sz enc ys]) L) : ParO P W n M R ops K (o :: rest) acc L := by
  refine ⟨Spc.slsl e m sz enc ys, by simp [hdst, hd], .inl ⟨rfl, .inr (.inr (.inl ⟨hg, j, oj, _, hoj, hsj, rfl, hdep, fun u hu => ?_⟩))⟩, by simpa [addL, Spc.g] using h⟩
  obtain ⟨oa, cap, rfl⟩ := hu
  have hlit : OpG P W n ((oj.dst.getD 1000000, .slice oa m cap) :: L) M ((Spc.sl m sz enc ys).fct (.slice oa m cap) ++ R) o (Spc.lit 1 e [.slice oa m cap]) := by
    refine OpG_lit (vs := [.slice oa m cap]) ho ht hi hz (by rw [h1]; rfl) (by rw [h1]; rfl) ?_ rfl ⟨by rw [h1]; rfl, trivial⟩ (by rw [h1]; rfl)
    show evs _ [Operand.tmp x] = _
    subst hx
    simp only [evs, ev, look_cons_eq]
  intro Mx Rx a w g1 g3
  have hr := hlit Mx Rx a w g1 g3
  generalize (execOp a.eval o).run P w = r at hr
  have conv : ∀ v w', (Spc.lit 1 e [.slice oa m cap]).val v → St W ((Spc.lit 1 e [.slice oa m cap]).rs v ++ (Mx ++ M)) ((Spc.lit 1 e [.slice oa m cap]).fs v ++ (Rx ++ ((Spc.sl m sz enc ys).fct (.slice oa m cap) ++ R))) w' →
      (Spc.slsl e m sz enc ys).val v ∧ St W ((Spc.slsl e m sz enc ys).rs v ++ (Mx ++ M)) ((Spc.slsl e m sz enc ys).fs v ++ (Rx ++ ((Spc.sl m sz enc ys).fct (.slice oa m cap) ++ R))) w' := by
    intro v w' hv hst
    refine ⟨hv, ?_⟩
    refine (hst.derive (ψ := slF (sblk v) e m sz enc ys) fun V hV => ⟨(oa, cap), hV _ ?_, hV _ ?_⟩).weak ?_
    · exact List.mem_append_left _ (by simp [Spc.fs, Spc.g])
    · exact List.mem_append_right _ (List.mem_append_right _ (List.mem_append_left _ (by simp [Spc.g, adr])))
    · intro φ hφ
      rcases List.mem_append.1 hφ with h | h
      · have : φ = slF (sblk v) e m sz enc ys := by simpa [Spc.fs, Spc.g] using h
        subst this; simp
      · exact List.mem_cons_of_mem _ (List.mem_append_right _ h)
  cases r with
  | ok y w' =>
    cases y <;> simp only [upG] at hr ⊢
    case value v => exact conv v w' hr.1 hr.2
    case skip => exact conv undef w' hr.1 hr.2
    case enter f args =>
      obtain ⟨rfl, hc⟩ := hr
      refine ⟨rfl, hc.mono ?_⟩
      rintro e w'' (⟨v, rfl, h4, h5⟩ | ⟨c, rfl, hc1, _⟩)
      · exact .inl ⟨v, rfl, conv v w'' h4 h5⟩
      · cases hc1
  | halt x w' => exact hr.elim
theorem f_slsl {α : Type} {X : Act → World → Prop} {os : List Oper} {ss : List Spc} {e : TypeId} {m sz : Nat} {enc : α → List Value} {ys : List α} {d : Nat} (hdst : o.dst = some d) (h : ∀ b, Fin W n D X os ss ((d, .slice (some ⟨b, 0, none⟩) 1 1) :: L) M (slF b e m sz enc ys :: R)) : Fin W n D X (o :: os) (Spc.slsl e m sz enc ys :: ss) L M R :=
  f_g hdst (fun v hv => by
    have := h (sblk v)
    rw [← (show v = .slice (some ⟨sblk v, 0, none⟩) 1 1 from hv)] at this
    exact this)
theorem f_gf {X : Act → World → Prop} {os : List Oper} {ss : List Spc} {pval : Value → Prop} {fct : Value → List Fact} {d : Nat} (hdst : o.dst = some d) (h : ∀ v, pval v → Fin W n D X os ss ((d, v) :: L) M (fct v ++ R)) : Fin W n D X (o :: os) (Spc.g pval (fun _ => []) fct :: ss) L M R := f_g hdst h
theorem Imp.slF {α : Type} {X : Act → World → Prop} {b : Nat} {e : TypeId} {m sz : Nat} {enc : α → List Value} {ys : List α} [hm : InR (G.slF b e m sz enc ys) R] (h : ∀ oa cap, Imp W n D L M (boxF b e [.slice oa m cap] :: rowD oa sz enc ys :: R) X) : Imp W n D L M R X := by
  refine Imp.exF (φ := fun x : Option Addr × Nat => fun V => boxF b e [.slice x.1 m x.2] V ∧ rowD x.1 sz enc ys V) hm.mem (fun x => (Mono.box _ _ _).and (Mono.row _ _ _ _)) ?_
  rintro ⟨oa, cap⟩
  refine Imp.derive (ψ := rowD oa sz enc ys) ?_ (fun V hV => (hV _ (List.mem_cons_self ..)).2)
  refine Imp.derive (ψ := boxF b e [.slice oa m cap]) ?_ (fun V hV => (hV _ (List.mem_cons_of_mem _ (List.mem_cons_self ..))).1)
  refine (h oa cap).weak (fun _ _ h => h) SelM.refl ?_
  intro φ hφ
  rcases List.mem_cons.1 hφ with rfl | hφ
  · simp
  · rcases List.mem_cons.1 hφ with rfl | hφ
    · simp
    · exact List.mem_cons_of_mem _ (List.mem_cons_of_mem _ (List.mem_cons_of_mem _ hφ))
def FnOk (P : Program) {κ : Type} (dom : κ → Prop) (key : κ → Value) (ans : κ → Value) (v : Value) (m : Res) (Rs : List Fact) : Prop :=
  ∃ k caps, v = .func (.func k) #[] (List.toArray caps) ∧ ∀ x, dom x → FnM P k (key x :: caps) m Rs (fun u => u = ans x)
theorem o_fnk {κ : Type} {dom : κ → Prop} {key ans : κ → Value} {ops : Array Oper} {rest : List Oper} {k : FuncId} {args : List Value} {R0 : List Fact} {xs : List Operand} {ts : Array TypeId} {d : Nat}
    (h : FnS P k args [] R0 (fun e M' R' => ∃ v m, e = .returned v ∧ M' = [m] ∧ FnOk P dom key ans v m R')) (ho : o.op = .call { callee := .value (.func k), args := xs.toArray, argTypes := ts })
    (hx : evs L xs = some args) (hg : o.guard = none) (hdst : o.dst = some d) (hd : Nat.blt d n = true) (hs : SubR R R0)
    (hret : ∀ (k : FuncId) (caps : List Value) (m : Res) (Rs : List Fact), (∀ x, dom x → FnM P k (key x :: caps) m Rs (fun u => u = ans x)) → Imp W n D ((d, .func (.func k) #[] caps.toArray) :: L) (m :: M) (Rs ++ R) (wpList P ops Q rest)) : Imp W n D L M R (wpList P ops Q (o :: rest)) := by
  refine o_call h ho [] [] rfl hx (by simp) hg (by simp [okD, hdst, hd]) SelM.refl hs ?_ ?_ ?_
  · rintro v M' R' ⟨v', m, he, rfl, kk, caps, rfl, hf⟩
    cases he
    rw [hdst]
    exact hret kk caps m R' hf
  · rintro c M' R' ⟨v', m, he, _⟩; cases he
  · rintro M' R' ⟨v', m, he, _⟩; cases he
end Go.G

namespace Go.G
variable {P : Program} {W : World} {n : Nat} {D : List Deferred} {L : Tm} {M : List Res} {R : List Fact} {Q : Exit → Act → World → Prop} {o : Oper}
instance (priority := 1350) SelMC.capp {M A B : List Res} {r : Res} [h : SelMC M (r :: (A ++ B))] : SelMC M ((r :: A) ++ B) := ⟨h.sel⟩
instance (priority := 1340) SelMC.napp {M B : List Res} [h : SelMC M B] : SelMC M ([] ++ B) := ⟨h.sel⟩
theorem made_flat {α : Type} {enc : α → List Value} {z : Array Value} {z0 : α} (hz : enc z0 = z.toList) : ∀ l : Nat, (madeCells z (l * z.size)).toList = (List.replicate l z0).flatMap enc := by
  intro l
  have hlen : (enc z0).length = z.size := by rw [hz]; simp
  apply List.ext_getElem?
  intro k
  by_cases hk : k < l * z.size
  · have hpos : 0 < z.size := Nat.pos_of_ne_zero fun h => by rw [h] at hk; simp at hk
    have hlt : k % z.size < z.size := Nat.mod_lt _ hpos
    have hdiv : k / z.size < l := Nat.div_lt_of_lt_mul (by rw [Nat.mul_comm]; exact hk)
    have hkk : k = (k / z.size) * z.size + k % z.size := by rw [Nat.mul_comm]; exact (Nat.div_add_mod k z.size).symm
    have key : ∀ (l i j : Nat), i < l → j < z.size → ((List.replicate l z0).flatMap enc)[i * z.size + j]? = z[j]? := by
      intro l
      induction l with
      | zero => intro i j h; omega
      | succ l ih =>
        intro i j h hj
        rw [List.replicate_succ, List.flatMap_cons]
        cases i with
        | zero =>
          rw [List.getElem?_append_left (by rw [hlen]; omega), hz]
          simp
        | succ i =>
          rw [List.getElem?_append_right (by rw [hlen, Nat.add_mul]; omega), hlen, show (i + 1) * z.size + j - z.size = i * z.size + j from by rw [Nat.add_mul]; omega]
          exact ih i j (by omega) hj
    rw [show ((List.replicate l z0).flatMap enc)[k]? = z[k % z.size]? from by conv => lhs; rw [hkk]
                                                                              exact key l _ _ hdiv hlt]
    unfold madeCells
    simp [hk, hlt]
  · have h1 : ((List.replicate l z0).flatMap enc).length = l * z.size := by
      clear hk
      induction l with
      | zero => simp
      | succ l ih => rw [List.replicate_succ, List.flatMap_cons, List.length_append, hlen, ih, Nat.add_mul]; omega
    rw [List.getElem?_eq_none (by simp [madeCells]; omega), List.getElem?_eq_none (by omega)]
theorem o_make {α : Type} {enc : α → List Value} {ops : Array Oper} {rest : List Oper} {t e : TypeId} {i : TypeInfo} {z : Value} {x y : Operand} {l c d : Nat} {sz : Nat} (z0 : α) (ho : o.op = .makeSlice t x y) (ht : P.underlying t = some (.slice e)) (hi : P.info? e = some i) (hz : i.zero = some z) (hsz : i.size = sz) (hzs : z.cells.size = sz) (hz0 : enc z0 = z.cells.toList)
    (hg : o.guard = none) (hdst : o.dst = some d) (hd : Nat.blt d n = true) (hx : ev L x = some (.int .i64 (l : Int))) (hy : ev L y = some (.int .i64 (c : Int))) (hlc : l ≤ c) (hbd : c ≤ 1000000 ∧ i.bytes ≤ 1000000)
    (h : ∀ b, Imp W n D ((d, .slice (some ⟨b, 0, none⟩) l c) :: L) (ownL (.slice (some ⟨b, 0, none⟩) l c) e sz enc (List.replicate l z0) :: M) R (wpList P ops Q rest)) : Imp W n D L M R (wpList P ops Q (o :: rest)) := by
  intro a w g1 g2 g3
  refine wpList_plain hg fun K hK => ?_
  unfold Oper.wp
  have hby : (i.bytes : Int) * (c : Int) ≤ 281474976710656 := by
    have h1 : i.bytes * c ≤ 1000000 * 1000000 := Nat.mul_le_mul hbd.2 hbd.1
    have h2 : ((i.bytes * c : Nat) : Int) ≤ 281474976710656 := by omega
    rwa [Int.natCast_mul] at h2
  have hr := run_make (P := P) w t e i z ht hi hz .i64 .i64 l c (by omega) (by omega) hby (by omega)
  have key : ∀ ρ : Operand → Value, ρ x = .int .i64 (l : Int) → ρ y = .int .i64 (c : Int) → (execOp ρ o).run P w = .ok (.value (.slice (some ⟨w.heap.size, 0, none⟩) l c)) (w.alloc (.cells (madeCells z.cells (c * i.size)) e)) := by
    intro ρ e1 e2
    unfold execOp
    simp only [Int.toNat_natCast] at hr
    simp only [ho, e1, e2, Sem.run_bind, hr, Result.andThen_ok, Sem.run_pure]
  rw [key _ (g1.ev hx) (g1.ev hy), Oper.upon_value, hdst]
  refine hK _ _ (h w.heap.size _ _ (g1.put (by simpa using hd) _) (by rw [put_defers]; exact g2) ?_)
  have h4 := g3.push (.cells (madeCells z.cells (c * i.size)) e)
  obtain ⟨s, ⟨s1, s2, rfl, hs1, hM⟩, hO, hR⟩ := h4.mem
  refine ⟨h4.os, h4.tape, h4.output, s1 ++ s2, ⟨s1, s2, rfl, ?_, hM⟩, hO, hR⟩
  have hfl := made_flat (enc := enc) (z := z.cells) hz0 l
  have hlen : ((List.replicate l z0).flatMap enc).length = l * sz := by rw [← hfl, hzs]; simp [madeCells]
  refine ⟨by rw [hlen]; simp, .inr ⟨w.heap.size, c, _, by simp, by simpa using hlc, by simp only [maxLen]; omega, by rw [size_madeCells, hsz], ?_, hs1⟩⟩
  rw [List.length_replicate, ← hfl, hzs, hsz]
  apply List.ext_getElem?
  intro k
  rw [List.getElem?_take]
  unfold madeCells
  have hle : l * sz ≤ c * sz := Nat.mul_le_mul_right _ hlc
  split
  · rename_i hk
    simp [hk, show k < c * sz from by omega]
  · rename_i hk
    simp [hk]
theorem o_copy {α : Type} {enc : α → List Value} {ops : Array Oper} {rest : List Oper} {t t2 e : TypeId} {i : TypeInfo} {x y : Operand} {d m : Nat} {sz cap : Nat} {v : Value} {xs ys : List α} {oa : Option Addr} {M' : List Res} [hM : HasOwn v M e sz enc xs M'] [hr : HasRow oa R sz enc ys] (ho : o.op = .call { callee := .builtin .copy, args := #[x, y], argTypes := #[t, t2] })
    (ht : P.underlying t = some (.slice e)) (hi : P.info? e = some i) (hsz : i.size = sz) (hg : o.guard = none) (hdst : o.dst = some d) (hd : Nat.blt d n = true) (henc : ∀ x, (enc x).length = sz) (h1 : ∀ x, oneCells (enc x) = true)
    (hx : ev L x = some v) (hy : ev L y = some (.slice oa m cap)) (hm : m = ys.length) (hl : xs.length = ys.length)
    (h : Imp W n D ((d, .int .i64 (m : Int)) :: L) (ownL v e sz enc ys :: M') R (wpList P ops Q rest)) : Imp W n D L M R (wpList P ops Q (o :: rest)) := by
  subst hm hsz
  intro a w g1 g2 g3
  refine wpList_plain hg fun K hK => ?_
  unfold Oper.wp
  have h0 : St W (ownL v e i.size enc xs :: M') R w := g3.perm hM.del.perm
  obtain ⟨s, ho', hO⟩ := h0.res (Upd.of_mem (List.mem_cons_self ..))
  have hcl : (ys.flatMap enc).length = ys.length * i.size := by
    clear hr hy hl h
    induction ys with
    | nil => simp
    | cons y ys ih => rw [List.flatMap_cons, List.length_append, henc, ih, List.length_cons, Nat.add_mul]; omega
  have h1c : ∀ u ∈ ys.flatMap enc, u.oneCell' = true := by
    intro u hu
    obtain ⟨y, _, hy⟩ := List.mem_flatMap.1 hu
    exact oneCells_mem (h1 y) u hy
  have run : ∃ w', (Builtin.copy_ #[t, t2] o.type #[v, .slice oa ys.length cap]).run P w = .ok (goInt ys.length) w' ∧ St W (ownL v e i.size enc ys :: M') R w' := by
    obtain ⟨hlen, hcase⟩ := ho'
    by_cases hy0 : ys = []
    · subst hy0
      have hx0 : xs = [] := List.eq_nil_of_length_eq_zero (by simpa using hl)
      subst hx0
      refine ⟨w, ?_, h0⟩
      rcases hcase with ⟨rfl, _, _⟩ | ⟨b, cp, C, rfl, _⟩ <;> cases oa <;> simp [Builtin.copy_, run_underlying ht, Builtin.lenOf, Builtin.firstCells, sizeOf, typeInfo, hi, loadCells, loadCellsFrom, storeCells]
    · have hne : 0 < ys.length := List.length_pos_iff.2 hy0
      obtain ⟨b2, off, rfl, hc⟩ := g3.row hr.mem hne
      rcases hcase with ⟨rfl, h00, _⟩ | ⟨b, cp, C, rfl, hmc, hcm, hC, htake, rfl⟩
      · omega
      · have hb : w.heap[b]? = some (.cells C e (0, 0)) := hO.at_ (b, _) (by simp)
        have hload := run_loadCells_list (P := P) w ⟨b2, off, none⟩ (ys.flatMap enc) (fun j u hu => by
          have hj : j < ys.length * i.size := by rw [← hcl]; exact (List.getElem?_eq_some_iff.1 hu).1
          have hpos : 0 < i.size := Nat.pos_of_ne_zero fun h => by rw [h] at hj; simp at hj
          have hlt : j % i.size < i.size := Nat.mod_lt _ hpos
          have hdiv : j / i.size < ys.length := Nat.div_lt_of_lt_mul (by rw [Nat.mul_comm]; exact hj)
          have hkk : j = (j / i.size) * i.size + j % i.size := by rw [Nat.mul_comm]; exact (Nat.div_add_mod j i.size).symm
          have e1 := flat_at henc ys _ _ hdiv hlt
          rw [← hkk, hu] at e1
          rw [add_at]
          have e2 := hc _ _ hdiv hlt
          rw [Nat.add_assoc, ← hkk] at e2
          rw [e2, ← e1])
        have hfit : 0 + 0 + (ys.flatMap enc).length ≤ C.size := by
          rw [hcl, hC]; simp only [Nat.zero_add]; exact Nat.mul_le_mul_right _ (by omega)
        have hst := run_storeCells_at P b 0 e (ys.flatMap enc) 0 C w hb hfit h1c
        refine ⟨w.setRow b (C.toList.take (0 + 0) ++ ys.flatMap enc ++ C.toList.drop (0 + 0 + (ys.flatMap enc).length)).toArray, ?_, ?_⟩
        · have hmin : Nat.min ys.length ys.length = ys.length := Nat.min_self _
          rw [hcl] at hload
          rw [hl]
          unfold Builtin.copy_
          simp only [List.size_toArray, List.length_cons, List.length_nil, Nat.reduceAdd, Nat.lt_add_one, Nat.zero_lt_succ, Array.getElem?_eq_getElem, List.getElem_toArray, List.getElem_cons_zero, List.getElem_cons_succ, Sem.run_bind, run_underlying ht, Result.andThen_ok, Builtin.lenOf, Builtin.firstCells, Sem.run_pure, run_sizeOf' hi, hmin, hload, hst]
        · refine h0.replace Upd.here rfl rfl rfl ?_
          rintro s' ⟨_, hc'⟩ hO'
          have hs' : s' = [(b, .cells C e (0, 0))] := by
            rcases hc' with ⟨hv, _⟩ | ⟨b', cap', C', hv, _, _, _, _, hs''⟩
            · cases hv
            · simp only [Value.slice.injEq, Option.some.injEq, Addr.mk.injEq] at hv
              obtain ⟨⟨rfl, _, _⟩, _, rfl⟩ := hv
              subst hs''
              have := hO'.at_ (b, .cells C' e (0, 0)) (by simp)
              simp only at this
              rw [hb] at this
              simp only [Option.some.injEq, Obj.cells.injEq] at this
              rw [this.1]
          subst hs'
          refine ⟨[(b, .cells (C.toList.take (0 + 0) ++ ys.flatMap enc ++ C.toList.drop (0 + 0 + (ys.flatMap enc).length)).toArray e (0, 0))], ⟨hcl, .inr ⟨b, cp, _, by rw [hl], by omega, hcm, ?_, ?_, rfl⟩⟩, ⟨by simp [keys], ?_⟩, ?_, ?_⟩
          · simp only [List.size_toArray, List.length_append, List.length_take, List.length_drop, Array.length_toList]
            omega
          · simp only [Nat.add_zero, List.take_zero, List.nil_append]
            rw [← hcl]
            exact List.take_left
          · intro p hp
            simp only [List.mem_singleton] at hp
            subst hp
            exact setRow_heap w b C _ e _ hb
          · intro x hx; exact .inl (by simpa [keys] using hx)
          · intro x _ hx
            exact setRow_other w b x _ (by simpa [keys] using hx)
  obtain ⟨w', hr', hw'⟩ := run
  have hrun : ∀ ρ : Operand → Value, ρ x = v → ρ y = .slice oa ys.length cap → (execOp ρ o).run P w = .ok (.value (goInt ys.length)) w' := by
    intro ρ e1 e2
    unfold execOp
    simp only [ho, resolve, invoke, builtin, Sem.run_bind, Sem.run_pure, Result.andThen_ok, List.map_toArray, List.map_cons, List.map_nil, e1, e2, hr']
  rw [hrun _ (g1.ev hx) (g1.ev hy), Oper.upon_value, hdst]
  exact hK _ _ (h _ w' (g1.put (by simpa using hd) _) (by rw [put_defers]; exact g2) hw')
theorem FnS.intro0 {k : FuncId} {args : List Value} {R0 : List Fact} {Post : Ending → List Res → List Fact → Prop} {fn : Func} {c : Code} (he : ∀ (ag : Array Value) (w : World), (callFunc k ag).run P w = .ok (.enter k ag) w)
    (hf : P.funcs[k]? = some fn) (hb : fn.body = some c) (hn : fn.ntmps = n) (ha : Nat.ble args.length n = true)
    (h : ∀ W Mf Rf, Imp W n [] (argsL args 0) Mf (R0 ++ Rf) (c.wp P (bodyPost P fn (RetE W Mf (R0 ++ Rf) Post)))) : FnS P k args [] R0 Post := FnS.intro he hf hb hn ha h
theorem FnS.introD0 {k : FuncId} {args : List Value} {R0 : List Fact} {Post : Ending → List Res → List Fact → Prop} {fn : Func} {c : Code} (he : ∀ (ag : Array Value) (w : World), (callFunc k ag).run P w = .ok (.enter k ag) w)
    (hf : P.funcs[k]? = some fn) (hb : fn.body = some c) (hn : fn.ntmps = n) (ha : Nat.ble args.length n = true)
    (h : ∀ W Mf Rf, Imp W n [] (argsL args 0) Mf (R0 ++ Rf) (c.wp P (bodyPostD P fn (RetE W Mf (R0 ++ Rf) Post)))) : FnS P k args [] R0 Post := by
  refine ⟨he, fun W Mf Rf w hw => calls_of_wp_defers hf hb ?_⟩
  rw [hn]
  exact h W Mf Rf _ w (FSat.entry (Nat.le_of_ble_eq_true ha)) rfl hw
theorem d_rete {k : FuncId} {K : IntKind} {rT B : TypeId} {b : Nat} {fn : Func} {v : Value} {Mf : List Res} {R0 : List Fact} {Post : Ending → List Res → List Fact → Prop} (M' : List Res) (R' : List Fact) (ha : AnsP P k K rT B) (hr : Rd P W n L M R fn v) (hp : Post (.returned v) M' R') (hM : SelM M (M' ++ Mf)) (hR : SubR R (R' ++ R0)) :
    Imp W n [{ target := .fn (.func k) #[], args := #[pt b 0] }] L M R (bodyPostD P fn (RetE W Mf R0 Post) .ret) :=
  leaves_ret ha hr (fun _ h => ⟨M', R', hp, (h.sel hM).weak hR⟩)
theorem d_pane {k : FuncId} {K : IntKind} {rT B : TypeId} {b : Nat} {x : Value} {y : Int} {M1 : List Res} {fn : Func} {v : Value} {Mf : List Res} {R0 : List Fact} {Post : Ending → List Res → List Fact → Prop} (M' : List Res) (R' : List Fact) (ha : AnsP P k K rT B) [hu : UpdBox b M B [x] [.int K y] M1] (hr : Rd P W n L M1 R fn v) (hp : Post (.returned v) M' R') (hM : SelM M1 (M' ++ Mf)) (hR : SubR R (R' ++ R0)) :
    Imp W n [{ target := .fn (.func k) #[], args := #[pt b 0] }] L M R (bodyPostD P fn (RetE W Mf R0 Post) (.panic [{ v := .iface rT (.int K y), recovered := false }])) :=
  leaves_pan ha hr (fun _ h => ⟨M', R', hp, (h.sel hM).weak hR⟩)
end Go.G

namespace Go.G
variable {P : Program} {W : World} {n : Nat} {D : List Deferred} {L : Tm} {M : List Res} {R : List Fact} {Q : Exit → Act → World → Prop} {o : Oper}
theorem v_eqV {t u : TypeId} {x y : Operand} {us vs : Array Value} {r : Bool} (ho : o.op = .binOp .eql t x y u) (hx : ev L x = some (.agg us)) (hy : ev L y = some (.agg vs)) (hg : P.eqGuardType P.depth t = false) (hb : ∀ w, (Op.equal t (.agg us) (.agg vs)).run P w = .ok r w) : OpQ P W n L M R o (.bool r) :=
  OpQ.of_value fun f w h1 _ => by
    have e1 := h1.ev hx
    have e2 := h1.ev hy
    have hb1 : (binOp .eql t (.agg us) (.agg vs)).run P w = .ok (.bool r) w := by
      show Sem.run P (do pure (Value.bool (← Op.equal t (.agg us) (.agg vs)))) w = _
      simp only [Sem.run_bind, hb, Result.andThen_ok, Sem.run_pure]
    unfold execOp
    simp [ho, e1, e2, eqGuard, run_program, hg, hb1]
theorem v_eqP {t u : TypeId} {x y : Operand} {us vs : Array Value} {p : Prop} [Decidable p] (ho : o.op = .binOp .eql t x y u) (hx : ev L x = some (.agg us)) (hy : ev L y = some (.agg vs)) (hg : P.eqGuardType P.depth t = false) (hb : ∀ w, (Op.equal t (.agg us) (.agg vs)).run P w = .ok (decide p) w) : OpQ P W n L M R o (.bool (decide p)) := v_eqV ho hx hy hg hb
theorem run_partC {w : World} {t : TypeId} {d : TypeDesc} {us : Array Value} {k : Nat} {v : Value} (hu : P.underlying t = some d) (hd : aggD d = false) (hv : us[k]? = some v) : (part t us k).run P w = .ok v w := by
  have hagg := run_isAgg' (w := w) hu
  rw [hd] at hagg
  simp [part, hagg, hv]
theorem fields_nil {d : Nat} {us vs : Array Value} {w : World} : (Op.eqFields d us vs []).run P w = .ok (decide True) w := by simp [Op.eqFields]
theorem fields_cons {d : Nat} {us vs : Array Value} {w : World} {f : Field} {fs : List Field} {a b : Value} {p q : Prop} [Decidable p] [Decidable q] (hn : (f.name != "_") = true) (h1 : (part f.type us f.offset).run P w = .ok a w) (h2 : (part f.type vs f.offset).run P w = .ok b w) (h3 : (Op.equalIn d f.type a b).run P w = .ok (decide p) w) (h4 : (Op.eqFields d us vs fs).run P w = .ok (decide q) w) :
    (Op.eqFields d us vs (f :: fs)).run P w = .ok (decide (p ∧ q)) w := by
  have hn' : f.name ≠ "_" := by simpa using hn
  simp only [Op.eqFields, if_pos hn', Sem.run_bind, h1, h2, h3, Result.andThen_ok]
  by_cases hp : p
  · simp [hp, h4]
  · simp [hp]
theorem eq_int {d : Nat} {t : TypeId} {k k' : IntKind} {a b : Int} {w : World} (h : P.underlying t = some (.int k')) : (Op.equalIn (d + 1) t (.int k a) (.int k b)).run P w = .ok (decide (a = b)) w := by
  have e : (a == b) = decide (a = b) := by by_cases h : a = b <;> simp [h]
  rw [← e]; exact run_equalIn_int w d t k k' a b h
theorem eq_struct {d : Nat} {t : TypeId} {us vs : Array Value} {fs : Array Field} {w : World} {p : Prop} [Decidable p] (hu : P.underlying t = some (.struct fs)) (hp : P.stoodInHeld t = false) (h : (Op.eqFields d us vs fs.toList).run P w = .ok (decide p) w) : (Op.equalIn (d + 1) t (.agg us) (.agg vs)).run P w = .ok (decide p) w := by
  have hf : P.fieldsOf t = fs := by simp [Program.fieldsOf, hu]
  rw [run_equalIn_struct w d t us vs (by rw [hf]; exact hu) hp, hf]; exact h
theorem eq_to {t : TypeId} {us vs : Array Value} {p q : Prop} [Decidable p] [Decidable q] (h : ∀ w, (Op.equalIn (9999 + 1) t (.agg us) (.agg vs)).run P w = .ok (decide p) w) (e : p ↔ q) (w : World) : (Op.equal t (.agg us) (.agg vs)).run P w = .ok (decide q) w := by
  rw [← decide_eq_decide.2 e]; exact h w
end Go.G

namespace Go.G
variable {P : Program} {W : World} {n : Nat} {D : List Deferred} {L : Tm} {M : List Res} {R : List Fact} {Q : Exit → Act → World → Prop} {o : Oper}
theorem Imp.rowN {α : Type} {enc : α → List Value} {sz : Nat} {b : Nat} {T : TypeId} {vs : List Value} {X : Act → World → Prop} (xs : List α) (henc : ∀ x, (enc x).length = sz) [hb : HasBoxF b R T vs] (e : vs = xs.flatMap enc) (h : Imp W n D L M (rowD (some ⟨b, 0, none⟩) sz enc xs :: R) X) : Imp W n D L M R X := by
  intro a w h1 h2 h3
  refine h a w h1 h2 (h3.derive fun V hV => .inr ⟨b, 0, vs.toArray, T, (0, 0), rfl, hV _ hb.mem, fun i j hi hj => ?_⟩)
  subst e
  rw [Nat.zero_add, ← flat_at henc xs i j hi hj]
  simp
theorem o_fnown {α : Type} {ops : Array Oper} {rest : List Oper} {k : FuncId} {args : List Value} {R0 : List Fact} {xs : List Operand} {ts : Array TypeId} {d : Nat} {g : Value → Value} {T : TypeId} {sz : Nat} {enc : α → List Value} {ys : List α}
    (h : FnS P k args [] R0 (fun e M' R' => ∃ v, e = .returned (g v) ∧ M' = [ownL v T sz enc ys] ∧ R' = [])) (ho : o.op = .call { callee := .value (.func k), args := xs.toArray, argTypes := ts })
    (hx : evs L xs = some args) (hg : o.guard = none) (hdst : o.dst = some d) (hd : Nat.blt d n = true) (hs : SubR R R0)
    (hret : ∀ v, Imp W n D ((d, g v) :: L) (ownL v T sz enc ys :: M) R (wpList P ops Q rest)) : Imp W n D L M R (wpList P ops Q (o :: rest)) := by
  refine o_call h ho [] [] rfl hx (by simp) hg (by simp [okD, hdst, hd]) SelM.refl hs ?_ ?_ ?_
  · rintro v M' R' ⟨u, he, rfl, rfl⟩
    cases he
    rw [hdst]
    exact hret u
  · rintro c M' R' ⟨u, he, _⟩; cases he
  · rintro M' R' ⟨u, he, _⟩; cases he
def adrAt : Value → Nat → Option Addr
  | .agg cs, i => adr (cs.getD i undef)
  | _, _ => none
end Go.G

namespace Go.G
variable {P : Program} {W : World} {n : Nat} {D : List Deferred} {L : Tm} {M : List Res} {R : List Fact} {Q : Exit → Act → World → Prop} {o : Oper}
abbrev FnC (P : Program) (k : FuncId) (args : List Value) (r : Res) (R0 : List Fact) (v : Value) (r' : Res) : Prop := FnS P k args [r] R0 (fun e M' R' => e = .returned v ∧ M' = [r'] ∧ R' = [])
theorem FnC.intro {k : FuncId} {args : List Value} {r r' : Res} {R0 : List Fact} {v : Value} {fn : Func} {c : Code} (he : ∀ (ag : Array Value) (w : World), (callFunc k ag).run P w = .ok (.enter k ag) w)
    (hf : P.funcs[k]? = some fn) (hb : fn.body = some c) (hn : fn.ntmps = n) (ha : Nat.ble args.length n = true)
    (h : ∀ W Mf Rf, Imp W n [] (argsL args 0) (r :: Mf) (R0 ++ Rf) (c.wp P (bodyPost P fn (RetE W Mf (R0 ++ Rf) (fun e M' R' => e = .returned v ∧ M' = [r'] ∧ R' = []))))) : FnC P k args r R0 v r' := FnS.intro he hf hb hn ha h
theorem p_fnc {ops : Array Oper} {K : List Spc → Prop} {rest : List Oper} {acc : List Spc} {k : FuncId} {args : List Value} {r r' : Res} {R0 : List Fact} {v : Value} {f : Operand} {xs : List Operand} {ts : Array TypeId} {vs : List Value} {d : Nat}
    (h : FnC P k args r R0 v r') (ho : o.op = .call { callee := .value f, args := xs.toArray, argTypes := ts }) (first captured : List Value) (hf : ev L f = some (.func (.func k) first.toArray captured.toArray))
    (hx : evs L xs = some vs) (ha : first ++ vs ++ captured = args) (hg : o.guard = none) (hdst : o.dst = some d) (hd : Nat.blt d n = true) (hs : SubR R R0)
    (hr : ParO P W n M R ops K rest (acc ++ [Spc.qc v [r] [r']]) ((d, v) :: L)) : ParO P W n M R ops K (o :: rest) acc L := by
  refine ⟨Spc.qc v [r] [r'], by simp [hdst, hd], .inl ⟨rfl, .inl ⟨.inl hg, ?_⟩⟩, by simpa [addL, Spc.qc, hdst] using hr⟩
  intro Mx Rx a w h1 h2
  have h2 : St W (Mx ++ ([r] ++ M)) (Rx ++ R) w := h2
  rw [exec_call first captured ho (h1.ev hf) (h1.evs hx) h.enter, ha]
  have h3 : St W ([r] ++ (Mx ++ M)) (R0 ++ (Rx ++ R)) w := (h2.perm (by
    rw [← List.append_assoc, ← List.append_assoc]
    exact List.perm_append_comm.append_right M)).both (fun φ hφ => List.mem_append_right _ (hs φ hφ))
  refine ⟨rfl, (h.calls W (Mx ++ M) (Rx ++ R) w h3).mono ?_⟩
  rintro e w' ⟨M', R', ⟨rfl, rfl, rfl⟩, hw'⟩
  refine .inl ⟨v, rfl, rfl, ?_⟩
  exact hw'.weak (fun φ hφ => List.mem_append_right _ (List.mem_append_right _ hφ))
theorem f_qc1 {X : Act → World → Prop} {os : List Oper} {ss : List Spc} {v : Value} {pre : List Res} {r' : Res} {d : Nat} (hdst : o.dst = some d) (h : Fin W n D X os ss ((d, v) :: L) (r' :: M) R) : Fin W n D X (o :: os) (Spc.qc v pre [r'] :: ss) L M R := f_qc hdst h
theorem o_fnc {ops : Array Oper} {rest : List Oper} {k : FuncId} {args : List Value} {r r' : Res} {M1 : List Res} {R0 : List Fact} {v : Value} {f : Operand} {xs : List Operand} {ts : Array TypeId} {vs : List Value} {d : Nat}
    (h : FnC P k args r R0 v r') (ho : o.op = .call { callee := .value f, args := xs.toArray, argTypes := ts }) (first captured : List Value) (hf : ev L f = some (.func (.func k) first.toArray captured.toArray))
    (hx : evs L xs = some vs) (ha : first ++ vs ++ captured = args) (hg : o.guard = none) (hdst : o.dst = some d) (hd : Nat.blt d n = true) [hM : DelC M r M1] (hs : SubR R R0)
    (hret : Imp W n D ((d, v) :: L) (r' :: M1) R (wpList P ops Q rest)) : Imp W n D L M R (wpList P ops Q (o :: rest)) := by
  refine o_call h ho first captured hf hx ha hg (by simp [okD, hdst, hd]) (SelM.pick hM.del SelM.refl) hs ?_ ?_ ?_
  · rintro u M' R' ⟨he, rfl, rfl⟩
    cases he
    rw [hdst]
    exact hret
  · rintro c M' R' ⟨he, _⟩; cases he
  · rintro M' R' ⟨he, _⟩; cases he
theorem r_parC1 {id : Nat} {l : List Oper} {M0 : List Res} (r : Res) [hM : DelC M0 r M] (m : Nat) (hm : P.follows .mixedOrders = true) (hpb : parB (l.take m) (l.drop m) = true) (hfr : freshB L (l.take m) = true)
    (h : ParO P W n M R l.toArray (fun ss => preOf ss = [r] ∧ lateX l.toArray ss = true ∧ Fin W n D (wpList P l.toArray Q (l.drop m)) (l.take m) ss L M R) (l.take m) [] L) : Imp W n D L M0 R ((Code.region id l.toArray true).wp P Q) :=
  r_parC [r] m (SelM.pick hM.del SelM.refl) hm hpb hfr h
end Go.G

namespace Go.G
variable {P : Program} {W : World} {n : Nat} {D : List Deferred} {L : Tm} {M : List Res} {R : List Fact} {Q : Exit → Act → World → Prop} {o : Oper}
theorem run_eqB {T : TypeId} {a b : Bool} (hT : P.underlying T = some .bool) (w : World) : (Op.equal T (.bool a) (.bool b)).run P w = .ok (a == b) w := by
  show (Op.equalIn (9999 + 1) T (.bool a) (.bool b)).run P w = _
  unfold Op.equalIn
  simp only [Sem.run_bind, run_underlying hT, Result.andThen_ok, Sem.run_pure]
theorem v_eqlB {T u : TypeId} {x y : Operand} {a b c : Bool} (ho : o.op = .binOp .eql T x y u) (hT : P.underlying T = some .bool) (hx : ev L x = some (.bool a)) (hy : ev L y = some (.bool b)) (hc : (a == b) = c) : OpQ P W n L M R o (.bool c) :=
  OpQ.of_value fun f w h1 _ => by
    have e1 := h1.ev hx
    have e2 := h1.ev hy
    have hb1 : (binOp .eql T (.bool a) (.bool b)).run P w = .ok (.bool c) w := by
      show Sem.run P (do pure (Value.bool (← Op.equal T (.bool a) (.bool b)))) w = _
      simp only [Sem.run_bind, run_eqB hT, Result.andThen_ok, Sem.run_pure, hc]
    unfold execOp
    simp [ho, e1, e2, eqGuard, hb1]
theorem v_shrn {t u : TypeId} {x y : Operand} {a h : Nat} (ho : o.op = .binOp .shr t x y u) (hx : ev L x = some (.int .i64 (a : Int))) (hy : ev L y = some (.int .i64 (h : Int))) (ha : a < 2 ^ 62) (hh : h < 62) : OpQ P W n L M R o (.int .i64 ((a >>> h : Nat) : Int)) :=
  OpQ.of_value fun f w h1 _ => by
    have hle : a >>> h ≤ a := Nat.shiftRight_le a h
    have hw : IntKind.wrap .i64 ((a >>> h : Nat) : Int) = ((a >>> h : Nat) : Int) := by
      generalize a >>> h = q at hle ⊢
      rw [IntKind.wrap_i64]; omega
    have h2 : ¬ ((h : Int) < 0) := by omega
    have h3 : min h 64 = h := by omega
    have hs : (Op.shift .shr .i64 (a : Int) .i64 (h : Int)).run P w = .ok (.int .i64 ((a >>> h : Nat) : Int)) w := by
      unfold Op.shift
      rw [if_neg h2]
      have e : ((a : Int).fdiv (2 ^ (min (h : Int).toNat IntKind.i64.bits))) = ((a >>> h : Nat) : Int) := by
        rw [show (h : Int).toNat = h from by simp, show IntKind.i64.bits = 64 from rfl, h3, Nat.shiftRight_eq_div_pow, Int.fdiv_eq_ediv_of_nonneg _ (by exact Int.le_of_lt (Int.pow_pos (by decide)))]
        simp
      simp only [e, hw, Sem.run_pure]
    have hb : (binOp .shr t (.int .i64 (a : Int)) (.int .i64 (h : Int))).run P w = .ok (.int .i64 ((a >>> h : Nat) : Int)) w := hs
    simp [execOp, ho, h1.ev hx, h1.ev hy, eqGuard, hb]
theorem v_andn {t u : TypeId} {x y : Operand} {a b : Nat} (ho : o.op = .binOp .and t x y u) (hx : ev L x = some (.int .i64 (a : Int))) (hy : ev L y = some (.int .i64 (b : Int))) (ha : a < 2 ^ 62) (hb : b < 2 ^ 62) : OpQ P W n L M R o (.int .i64 ((a &&& b : Nat) : Int)) :=
  OpQ.of_value fun f w h1 _ => by
    have hlt : a &&& b ≤ a := Nat.and_le_left
    have hw : IntKind.wrap .i64 ((a &&& b : Nat) : Int) = ((a &&& b : Nat) : Int) := by
      rw [IntKind.wrap_i64]; omega
    have hs : (Op.intBits .and .i64 (a : Int) (b : Int)).run P w = .ok (.int .i64 ((a &&& b : Nat) : Int)) w := by
      unfold Op.intBits
      have e1 : (BitVec.ofInt IntKind.i64.bits (a : Int) &&& BitVec.ofInt IntKind.i64.bits (b : Int)).toNat = a &&& b := by
        have h64 : IntKind.i64.bits = 64 := rfl
        rw [BitVec.toNat_and]
        simp only [BitVec.ofInt_natCast, BitVec.toNat_ofNat, h64]
        rw [Nat.mod_eq_of_lt (by omega), Nat.mod_eq_of_lt (by omega)]
      simp only [e1, hw, Sem.run_pure]
    have hb2 : (binOp .and t (.int .i64 (a : Int)) (.int .i64 (b : Int))).run P w = .ok (.int .i64 ((a &&& b : Nat) : Int)) w := hs
    simp [execOp, ho, h1.ev hx, h1.ev hy, eqGuard, hb2]
end Go.G

namespace Go.G
variable {P : Program} {W : World} {n : Nat} {D : List Deferred} {L : Tm} {M : List Res} {R : List Fact} {Q : Exit → Act → World → Prop} {o : Oper}
theorem p_stl {ops : Array Oper} {K : List Spc → Prop} {rest : List Oper} {acc : List Spc} {T B : TypeId} {x : Nat} {y : Operand} {zs us : List Value} {v : Value} {i : TypeInfo} (j : Nat) {oj : Oper} (hg : o.guard = none) (hdst : o.dst = none) (ho : o.op = .store T (.tmp x) y) (hi : P.info? T = some i)
    (hoj : ops[j]? = some oj) (hx : oj.dst.getD 1000000 = x) (hsj : acc[j]? = some (Spc.al isPt (boxAt B zs) acc.length (boxAt B us))) (hdep : depD ops o j = true) (hy : ∀ u, ev ((x, u) :: L) y = some v) (hc : v.cells.toList = us) (hsz : us.length = i.size) (hl : zs.length = us.length) (h1 : oneCells us = true)
    (h : ParO P W n M R ops K rest (acc ++ [Spc.s j]) L) : ParO P W n M R ops K (o :: rest) acc L := by
  refine p_upd5 (r := boxAt B us) hg hdst hoj hsj rfl rfl hdep (fun u hu => ?_) h
  obtain ⟨b, rfl⟩ := hu
  rw [hx]
  intro Mx Rx a w g1 g3
  have g3 : St W (Mx ++ (bx b B zs :: M)) (Rx ++ R) w := g3
  obtain ⟨w', hr, hw'⟩ := run_storeCells' (P := P) us 0 0 (b := b) (T := B) (vs := zs) (M' := Mx ++ (bx b B us :: M)) g3 (by rw [Nat.zero_add, splice_all hl]; exact ⟨Mx, M, rfl, rfl⟩) (oneCells_mem h1) (by omega)
  have hcs : v.cells.size = i.size := by rw [← hsz, ← hc]; simp
  have hxe : ev ((x, pt b 0) :: L) (.tmp x) = some (pt b 0) := by simp [ev, look_cons_eq]
  have hrun : (execOp a.eval o).run P w = .ok .skip w' := by
    simp [execOp, ho, g1.ev hxe, g1.ev (hy _), Instr.storeAt, pt, Instr.sureAddr, storeVar, run_sizeOf' hi, hcs, hc, hr]
  rw [hrun]
  refine ⟨rfl, ?_⟩
  refine hw'.perm ?_
  show (Mx ++ (bx b B us :: M)).Perm ([bx b B us] ++ (Mx ++ M))
  exact List.perm_middle
end Go.G

namespace Go.G
variable {P : Program} {W : World} {n : Nat} {D : List Deferred} {L : Tm} {M : List Res} {R : List Fact} {Q : Exit → Act → World → Prop} {o : Oper}
end Go.G

namespace Go.G
variable {P : Program} {W : World} {n : Nat} {D : List Deferred} {L : Tm} {M : List Res} {R : List Fact} {Q : Exit → Act → World → Prop} {o : Oper}
structure Cm (f : Int → Int) (l : List MapEntry) : Prop where
  all : ∀ e ∈ l, ∃ z, (Lit.int .i64 z).wf = true ∧ e.key = (Value.int .i64 z) ∧ e.val = (Value.int .i64 (f z))
  nodup : (l.map MapEntry.key).Nodup
  zero : ∀ z, f z ≠ 0 → ∃ e ∈ l, e.key = (Value.int .i64 z)
def updF (f : Int → Int) (z y : Int) : Int → Int := fun x => if x = z then y else f x
theorem Cm.set {f : Int → Int} {l : List MapEntry} {z y : Int} {j : Nat} {e0 : MapEntry} (h : Cm f l) (hw : (Lit.int .i64 z).wf = true) (hj : l[j]? = some e0) (hk : e0.key = (Value.int .i64 z)) {l' : List MapEntry}
    (hl : ∀ m, l'[m]? = if j = m then some { e0 with key := (Value.int .i64 z), val := (Value.int .i64 y) } else l[m]?) : Cm (updF f z y) l' := by
  have hkeys : l'.map MapEntry.key = l.map MapEntry.key := by
    apply List.ext_getElem?
    intro m
    rw [List.getElem?_map, List.getElem?_map, hl m]
    split
    · rename_i e; subst e; rw [hj]; simp [hk]
    · rfl
  refine ⟨fun e he => ?_, by rw [hkeys]; exact h.nodup, fun z' hz' => ?_⟩
  · obtain ⟨m, hm⟩ := List.mem_iff_getElem?.1 he
    rw [hl m] at hm
    split at hm
    · have : e = { e0 with key := (Value.int .i64 z), val := (Value.int .i64 y) } := by simpa using hm.symm
      subst this
      exact ⟨z, hw, rfl, by simp [updF]⟩
    · rename_i hne
      obtain ⟨z', h1, h2, h3⟩ := h.all e (List.mem_of_getElem? hm)
      refine ⟨z', h1, h2, ?_⟩
      have : z' ≠ z := fun x => by
        subst x
        have k1 : (l.map MapEntry.key)[j]? = some ((Value.int .i64 z')) := by rw [List.getElem?_map, hj]; simp [hk]
        have k2 : (l.map MapEntry.key)[m]? = some ((Value.int .i64 z')) := by rw [List.getElem?_map, hm]; simp [h2]
        have hlt : j < (l.map MapEntry.key).length := (List.getElem?_eq_some_iff.1 k1).1
        exact hne ((List.getElem?_inj hlt h.nodup).1 (k1.trans k2.symm))
      simp [updF, this, h3]
  · have hkk : (Value.int .i64 z') ∈ l'.map MapEntry.key := by
      rw [hkeys]
      by_cases e : z' = z
      · subst e; rw [← hk]; exact List.mem_map_of_mem (List.mem_of_getElem? hj)
      · obtain ⟨x, hx, hkx⟩ := h.zero z' (by simpa [updF, e] using hz')
        rw [← hkx]; exact List.mem_map_of_mem hx
    obtain ⟨x, hx, hkx⟩ := List.mem_map.1 hkk
    exact ⟨x, hx, hkx⟩
end Go.G

namespace Go.G
variable {P : Program} {W : World} {n : Nat} {D : List Deferred} {L : Tm} {M : List Res} {R : List Fact} {Q : Exit → Act → World → Prop} {o : Oper}
end Go.G

set_option linter.unusedVariables false
set_option linter.unusedSimpArgs false
namespace Go.G
variable {P : Program} {W : World} {n : Nat} {D : List Deferred} {L : Tm} {M : List Res} {R : List Fact} {Q : Exit → Act → World → Prop} {o : Oper}
def ownZ {α : Type} (v : Value) (T : TypeId) (sz : Nat) (enc : α → List Value) (xs : List α) : Res := fun s => ((∃ oa, v = .slice oa 0 0) ∧ xs = [] ∧ s = []) ∨ ownL v T sz enc xs s
theorem flat_len {α : Type} {enc : α → List Value} {sz : Nat} (henc : ∀ x, (enc x).length = sz) : ∀ xs : List α, (xs.flatMap enc).length = xs.length * sz
  | [] => by simp
  | x :: r => by rw [List.flatMap_cons, List.length_append, henc, flat_len henc r, List.length_cons, Nat.add_mul]; omega
theorem St.newOwn {α : Type} {enc : α → List Value} {sz : Nat} {w : World} {e : TypeId} {i : TypeInfo} {z : Value} (hsz : i.size = sz) (hzs : z.cells.size = sz) (henc : ∀ x, (enc x).length = sz) (xs : List α) {old : Nat} (h63 : xs.length ≤ maxLen) (hold : old < xs.length) (h : St W M R w) {cs : Array Value} (hcs : cs.toList = xs.flatMap enc) :
    St W (ownL (.slice (some ⟨w.heap.size, 0, none⟩) xs.length (grownCap w xs.length old e)) e sz enc xs :: M) R (w.drew.alloc (.cells (cs ++ Builtin.zeroCells z.cells (grownCap w xs.length old e - xs.length)) e)) := by
  have hge := grownCap_ge w xs.length old e
  have hcm := grownCap_le_maxLen w xs.length old e h63
  have hd : St W M R w.drew := h.heap rfl rfl rfl rfl
  have hp := hd.push (.cells (cs ++ Builtin.zeroCells z.cells (grownCap w xs.length old e - xs.length)) e)
  have hl := flat_len henc xs
  have hcl : cs.size = xs.length * sz := by rw [← hl, ← hcs]; simp
  refine hp.replace Upd.here rfl rfl rfl ?_
  intro s' hs' hO'
  refine ⟨s', ⟨hl, .inr ⟨w.heap.size, grownCap w xs.length old e, _, rfl, hge, hcm, ?_, ?_, hs'⟩⟩, hO', fun b hb => .inl hb, fun _ _ _ => rfl⟩
  · simp only [Array.size_append, size_zeroCells, hzs, hcl, ← Nat.add_mul]
    congr 1; omega
  · simp only [Array.toList_append, hcs]
    rw [← hl]
    exact List.take_left
theorem St.rowCells {α : Type} {enc : α → List Value} {sz : Nat} {w : World} {oa : Option Addr} {ys : List α} (h : St W M R w) (hm : rowD oa sz enc ys ∈ R) (henc : ∀ x, (enc x).length = sz) (hne : 0 < ys.length) : ∃ b off, oa = some ⟨b, off, none⟩ ∧ ∀ j u, (ys.flatMap enc)[j]? = some u → w.cell? ((⟨b, off, none⟩ : Addr).add j) = some u := by
  obtain ⟨b2, off, rfl, hc⟩ := h.row hm hne
  refine ⟨b2, off, rfl, fun j u hu => ?_⟩
  have hj : j < ys.length * sz := by rw [← flat_len henc ys]; exact (List.getElem?_eq_some_iff.1 hu).1
  have hpos : 0 < sz := Nat.pos_of_ne_zero fun h => by rw [h] at hj; simp at hj
  have hlt : j % sz < sz := Nat.mod_lt _ hpos
  have hdiv : j / sz < ys.length := Nat.div_lt_of_lt_mul (by rw [Nat.mul_comm]; exact hj)
  have hkk : j = (j / sz) * sz + j % sz := by rw [Nat.mul_comm]; exact (Nat.div_add_mod j sz).symm
  have e1 := flat_at henc ys _ _ hdiv hlt
  rw [← hkk, hu] at e1
  rw [add_at]
  have e2 := hc _ _ hdiv hlt
  rw [Nat.add_assoc, ← hkk] at e2
  rw [e2, ← e1]
theorem run_appN {α : Type} {enc : α → List Value} {sz : Nat} {w : World} {t ty e : TypeId} {i : TypeInfo} {z : Value} {ys : List α} {oa : Option Addr} {c b : Nat} (h : St W M R w) (hm : rowD oa sz enc ys ∈ R) (henc : ∀ x, (enc x).length = sz) (ht : P.underlying t = some (.slice e)) (hi : P.info? e = some i) (hz : i.zero = some z) (hsz : i.size = sz) (hzs : z.cells.size = sz)
    (hbd : ys.length ≤ 1000000 ∧ i.bytes ≤ 1000000) : ∃ v' w', (Builtin.append_ #[t, t] ty #[.slice (some ⟨b, 0, none⟩) 0 0, .slice oa ys.length c]).run P w = .ok v' w' ∧ St W (ownZ v' e sz enc ys :: M) R w' := by
  subst hsz
  by_cases hy : ys = []
  · subst hy
    refine ⟨.slice (some ⟨b, 0, none⟩) 0 0, w, ?_, ?_⟩
    · cases oa <;> simp [Builtin.append_, run_underlying ht, sizeOf, typeInfo, hi, Builtin.lenOf, Builtin.firstCells, loadCells, loadCellsFrom, storeCells]
    · obtain ⟨s, hS, hO, hR⟩ := h.mem
      exact ⟨h.os, h.tape, h.output, s, ⟨[], s, rfl, .inl ⟨⟨_, rfl⟩, rfl, rfl⟩, hS⟩, hO, hR⟩
  · have hne : 0 < ys.length := List.length_pos_iff.2 hy
    obtain ⟨b2, off, rfl, hnews⟩ := h.rowCells hm henc hne
    have hl := flat_len henc ys
    have hby : ys.length * i.bytes ≤ 140737488355328 := by
      have : ys.length * i.bytes ≤ 1000000 * 1000000 := Nat.mul_le_mul hbd.1 hbd.2
      omega
    have hr := run_append_grow (P := P) w t ty e i z ht hi hz ⟨b, 0, none⟩ 0 0 [] (by simp) (by simp) ⟨b2, off, none⟩ ys.length c (ys.flatMap enc) hl hnews (by omega) (by omega) (growslice_fits (by omega) (by rw [Nat.zero_add]; exact hby))
    have hgr := h.newOwn (e := e) (z := z) (i := i) rfl hzs henc ys (old := 0) (by simp only [maxLen]; omega) hne (cs := (ys.flatMap enc).toArray) (by simp)
    simp only [Nat.zero_add, List.nil_append] at hr
    refine ⟨_, _, hr, ?_⟩
    refine St.replace (r := ownL (.slice (some ⟨w.heap.size, 0, none⟩) ys.length (grownCap w ys.length 0 e)) e i.size enc ys) ?_ Upd.here rfl rfl rfl (fun s' hs' hO' => ⟨s', .inr hs', hO', fun b hb => .inl hb, fun _ _ _ => rfl⟩)
    simpa using hgr
def isL0 (v : Value) : Prop := ∃ b, v = .slice (some ⟨b, 0, none⟩) 0 0
abbrev Spc.l0 : Spc := Spc.g isL0 (fun _ => []) (fun _ => [])
theorem run_lit0 {w : World} {t e : TypeId} {i : TypeInfo} {ρ : Operand → Value} (ho : o.op = .buildSlice t 0 #[]) (ht : P.underlying t = some (.slice e)) (hi : P.info? e = some i) : (execOp ρ o).run P w = .ok (.value (.slice (some ⟨w.heap.size, 0, none⟩) 0 0)) (w.alloc (.cells #[] e)) := by
  simp only [execOp, ho, Instr.buildSlice, Sem.run_bind, run_underlying ht, run_sizeOf' hi, Result.andThen_ok]
  simp [newRow, newObj, Sem.run, Instr.fill]
  congr 2
  exact Array.eq_empty_of_size_eq_zero (by simp)
theorem o_lit0' {ops : Array Oper} {rest : List Oper} {t e : TypeId} {i : TypeInfo} {d : Nat} (ho : o.op = .buildSlice t 0 #[]) (ht : P.underlying t = some (.slice e)) (hi : P.info? e = some i) (hg : o.guard = none) (hdst : o.dst = some d) (hd : Nat.blt d n = true)
    (h : ∀ b, Imp W n D ((d, .slice (some ⟨b, 0, none⟩) 0 0) :: L) M R (wpList P ops Q rest)) : Imp W n D L M R (wpList P ops Q (o :: rest)) := by
  intro a w g1 g2 g3
  refine wpList_plain hg fun K hK => ?_
  unfold Oper.wp
  rw [run_lit0 ho ht hi, Oper.upon_value, hdst]
  exact hK _ _ (h w.heap.size _ _ (g1.put (by simpa using hd) _) (by rw [put_defers]; exact g2) (g3.push _).drop)
theorem o_appN {α : Type} {enc : α → List Value} {ops : Array Oper} {rest : List Oper} {d b c : Nat} {x y : Operand} {t e : TypeId} {i : TypeInfo} {z : Value} {sz : Nat} {oa : Option Addr} {ys : List α} [hrow : HasRow oa R sz enc ys] (ho : o.op = .call { callee := .builtin .append, args := #[x, y], argTypes := #[t, t] }) (ht : P.underlying t = some (.slice e)) (hi : P.info? e = some i) (hz : i.zero = some z) (hsz : i.size = sz) (hzs : z.cells.size = sz) (henc : ∀ x, (enc x).length = sz)
    (hg : o.guard = none) (hdst : o.dst = some d) (hd : Nat.blt d n = true) (hx : ev L x = some (.slice (some ⟨b, 0, none⟩) 0 0)) (hy : ev L y = some (.slice oa ys.length c)) (hbd : ys.length ≤ 1000000 ∧ i.bytes ≤ 1000000)
    (h : ∀ v, Imp W n D ((d, v) :: L) (ownZ v e sz enc ys :: M) R (wpList P ops Q rest)) : Imp W n D L M R (wpList P ops Q (o :: rest)) := by
  intro a w g1 g2 g3
  refine wpList_plain hg fun K hK => ?_
  unfold Oper.wp
  obtain ⟨v', w', hr, hw'⟩ := run_appN (P := P) (ty := o.type) (c := c) (b := b) g3 hrow.mem henc ht hi hz hsz hzs hbd
  have hrun : (execOp a.eval o).run P w = .ok (.value v') w' := by
    unfold execOp
    simp only [ho, resolve, invoke, builtin, Sem.run_bind, Sem.run_pure, Result.andThen_ok, List.map_toArray, List.map_cons, List.map_nil, g1.ev hx, g1.ev hy, hr]
  rw [hrun, Oper.upon_value, hdst]
  exact hK _ _ (h v' _ w' (g1.put (by simpa using hd) v') (by rw [put_defers]; exact g2) hw')
theorem St.ownZ_cases {α : Type} {enc : α → List Value} {sz : Nat} {w : World} {v : Value} {e : TypeId} {xs : List α} {M' : List Res} (h : St W (ownZ v e sz enc xs :: M') R w) : ((∃ oa, v = .slice oa 0 0) ∧ xs = [] ∧ St W M' R w) ∨ St W (ownL v e sz enc xs :: M') R w := by
  obtain ⟨s, ⟨s1, s2, rfl, hz, hS⟩, hO, hR⟩ := h.mem
  rcases hz with ⟨hv, hx, rfl⟩ | hz
  · exact .inl ⟨hv, hx, ⟨h.os, h.tape, h.output, s2, hS, by simpa using hO, by simpa using hR⟩⟩
  · exact .inr ⟨h.os, h.tape, h.output, s1 ++ s2, ⟨s1, s2, rfl, hz, hS⟩, hO, hR⟩
theorem Imp.openZ {α : Type} {enc : α → List Value} {sz : Nat} {T : TypeId} {xs : List α} {M' : List Res} {X : Act → World → Prop} (v : Value) [hd : DelC M (ownZ v T sz enc xs) M'] (hne : 0 < xs.length)
    (h : ∀ b cap sp, v = .slice (some ⟨b, 0, none⟩) xs.length cap → Imp W n D L (bx b T (xs.flatMap enc ++ sp) :: M') R X) : Imp W n D L M R X := by
  intro a w g1 g2 g3
  have g4 : St W (ownZ v T sz enc xs :: M') R w := g3.perm hd.del.perm
  rcases g4.ownZ_cases with ⟨_, hx, _⟩ | g5
  · subst hx; simp at hne
  · obtain ⟨s, ⟨s1, s2, rfl, ho, hS⟩, hO, hR⟩ := g5.mem
    obtain ⟨hlen, ⟨_, h0, _⟩ | ⟨b, cap, C, rfl, hmc, hcm, hC, htake, rfl⟩⟩ := ho
    · omega
    · refine h b cap (C.toList.drop (xs.length * sz)) rfl a w g1 g2 ⟨g5.os, g5.tape, g5.output, _, ⟨_, s2, rfl, ?_, hS⟩, hO, hR⟩
      show _ = _
      rw [← htake, List.take_append_drop]
theorem Imp.rowP {α : Type} {enc : α → List Value} {sz : Nat} {b : Nat} {T : TypeId} {vs sp : List Value} {X : Act → World → Prop} (xs : List α) (henc : ∀ x, (enc x).length = sz) [hb : HasBoxF b R T vs] (e : vs = xs.flatMap enc ++ sp) (h : Imp W n D L M (rowD (some ⟨b, 0, none⟩) sz enc xs :: R) X) : Imp W n D L M R X := by
  subst e
  refine h.derive fun V hV => .inr ⟨b, 0, _, T, (0, 0), rfl, hV _ hb.mem, fun i j hi hj => ?_⟩
  rw [← flat_at henc xs i j hi hj, Nat.zero_add]
  have : (i + 1) * sz ≤ xs.length * sz := Nat.mul_le_mul_right _ hi
  rw [Nat.add_mul] at this
  rw [List.getElem?_toArray, List.getElem?_append_left (by rw [flat_len henc]; omega)]
theorem v_indexAddrB {T : TypeId} {x ix : Operand} {l c b : Nat} {e : TypeId} {i : TypeInfo} {k : Nat} {kd : IntKind} (ho : o.op = .indexAddr T x ix) (hT : P.underlying T = some (.slice e)) (hi : P.info? e = some i)
    (hx : ev L x = some (.slice (some ⟨b, 0, none⟩) l c)) (hk : ev L ix = some (.int kd (k : Int))) (h1 : k < l) : OpQ P W n L M R o (pt b (k * i.size)) :=
  OpQ.of_value fun g w g1 _ => by
    simp [execOp, ho, g1.ev hx, g1.ev hk, Instr.indexAt, pt, run_underlying hT, asIntOf, h1, run_sizeOf' hi, add_at]
def Mid {ι : Type} (W : World) (n : Nat) (D : List Deferred) (I : ι → Prop) (LI : ι → Tm) (MI : ι → List Res) (RI : ι → List Fact) (a : Act) (w : World) : Prop := ∃ i, I i ∧ Here W n D (LI i) (MI i) (RI i) a w
theorem r_here_mid {ι : Type} {I : ι → Prop} {LI : ι → Tm} {MI : ι → List Res} {RI : ι → List Fact} (i : ι) (h : Imp W n D L M R (Here W n D (LI i) (MI i) (RI i))) (hI : I i) : Imp W n D L M R (Mid W n D I LI MI RI) := h.mono fun _ _ hx => ⟨i, hI, hx⟩
theorem r_mid {ι : Type} {x y : Code} (I : ι → Prop) (LI : ι → Tm) (MI : ι → List Res) (RI : ι → List Fact) (h1 : Imp W n D L M R (x.wp P (Exit.then (Mid W n D I LI MI RI) Q))) (h2 : ∀ i, I i → Imp W n D (LI i) (MI i) (RI i) (y.wp P Q)) : Imp W n D L M R ((Code.seq x y).wp P Q) := by
  refine r_seq (h1.mono fun a w hx => ?_)
  refine Code.wp_mono (fun e a' w' he => ?_) hx
  cases e
  case normal =>
    obtain ⟨i, hi, g1, g2, g3⟩ := he
    exact h2 i hi a' w' g1 g2 g3
  all_goals exact he
end Go.G

set_option linter.unusedVariables false
namespace Go.G
variable {P : Program} {W : World} {n : Nat} {D : List Deferred} {L : Tm} {M : List Res} {R : List Fact} {Q : Exit → Act → World → Prop} {o : Oper}
end Go.G

set_option linter.unusedVariables false
set_option linter.unusedSimpArgs false
namespace Go.G
variable {P : Program} {W : World} {n : Nat} {D : List Deferred} {L : Tm} {M : List Res} {R : List Fact} {Q : Exit → Act → World → Prop} {o : Oper} {F : Fence} {m0 : Nat}
theorem wpAnyIn_tail {ops : Array Oper} (hb : backB ops.toList = true) : ∀ (k t fuel : Nat) (listed : Array Bool) (a : Act) (w : World), t + k = ops.size → k ≤ fuel → listed.size = ops.size → Closed ops listed →
    (∀ i, i < t → listed.getD i false = true) → (∀ i, t ≤ i → i < ops.size → listed.getD i true = false) →
    (∀ listed', Closed ops listed' → ∀ i o, t ≤ i → ops[i]? = some o → (∀ e ∈ o.after, Region.binds .any e = true → listed'.getD e.on false = true) → ∀ j, j < i → listed'.getD j false = true) →
    wpListIn F m0 P ops Q (ops.toList.drop t) a w → wpAnyIn F m0 P .any ops Q fuel listed a w := by
  intro k
  induction k with
  | zero =>
    intro t fuel listed a w htk _ hsz _ hl _ _ h
    have hdrop : ops.toList.drop t = [] := List.drop_eq_nil_of_le (by simp; omega)
    rw [hdrop] at h
    have hready : Region.ready .any ops listed = [] := by
      apply List.eq_nil_iff_forall_not_mem.2
      intro i hi
      obtain ⟨h0, o, ho, _⟩ := mem_ready.1 hi
      have hlt := (Array.getElem?_eq_some_iff.1 ho).1
      have := hl i (by omega)
      rw [getD_both h0] at this; cases this
    cases fuel with
    | zero => exact ⟨hready, h⟩
    | succ f => exact ⟨fun _ => h, fun i hi => by rw [hready] at hi; cases hi⟩
  | succ k ih =>
    intro t fuel listed a w htk hkf hsz hcl hl hu hm h
    have ht : t < ops.size := by omega
    obtain ⟨fuel, rfl⟩ : ∃ f, fuel = f + 1 := ⟨fuel - 1, by omega⟩
    have hot : ops[t]? = some ops[t] := Array.getElem?_eq_getElem ht
    have hback : ∀ i o, ops[i]? = some o → ∀ e ∈ o.after, Region.binds .any e = true → e.on < i := by
      intro i o ho e he hbi
      have hlt := (Array.getElem?_eq_some_iff.1 ho).1
      have := List.all_eq_true.1 hb i (List.mem_range.2 (by simpa using hlt))
      rw [show ops.toList[i]? = some o from by simpa using ho] at this
      have := Array.all_eq_true_iff_forall_mem.1 this e he
      simpa [hbi] using this
    have htr : t ∈ Region.ready .any ops listed := mem_ready.2 ⟨hu t (Nat.le_refl _) ht, _, hot, fun e he hbi => hl _ (hback t _ hot e he hbi)⟩
    refine ⟨fun h0 => (by rw [h0] at htr; cases htr), fun i hi => ?_⟩
    obtain ⟨h0, o, ho, hp⟩ := mem_ready.1 hi
    have hlt := (Array.getElem?_eq_some_iff.1 ho).1
    have hge : t ≤ i := by
      rcases Nat.lt_or_ge i t with h' | h'
      · have := hl i h'; rw [getD_both h0] at this; cases this
      · exact h'
    have hit : i = t := by
      rcases Nat.lt_or_ge t i with h' | h'
      · have := hm listed hcl i o hge ho hp t h'
        rw [getD_both (hu t (Nat.le_refl _) ht)] at this; cases this
      · omega
    subst hit
    have hoi : o = ops[i] := Option.some.inj (ho.symm.trans hot)
    have hdrop : ops.toList.drop i = o :: ops.toList.drop (i + 1) := by
      rw [List.drop_eq_getElem_cons (by simpa using ht)]; simp [hoi]
    rw [hdrop] at h
    have hcl' : Closed ops (listed.setIfInBounds i true) := by
      intro j oj hj hlj e he hbi
      by_cases hij : i = j
      · subst hij
        have : oj = o := Option.some.inj (hj.symm.trans ho)
        subst this
        exact getD_set_true (hp e he hbi)
      · rw [getD_set_ne false hij] at hlj
        exact getD_set_true (hcl j oj hj hlj e he hbi)
    have hih := fun a w => ih (i + 1) fuel (listed.setIfInBounds i true) a w (by omega) (by omega) (by simp [hsz]) hcl'
      (fun j hj => by
        by_cases hij : i = j
        · subst hij; simp [hsz, ht]
        · rw [getD_set_ne false hij]; exact hl j (by omega))
      (fun j hj hj' => by rw [getD_set_ne true (by omega)]; exact hu j (by omega) hj')
      (fun l' hc' j oj hj => hm l' hc' j oj (by omega))
    unfold wpOpIn
    simp only [ho]
    unfold wpListIn at h
    split
    · rename_i hw
      rw [if_pos hw] at h
      exact Oper.wpIn_mono (fun a w => hih a w) h
    · rename_i hw
      rw [if_neg hw] at h
      exact ⟨h.1, hih _ _ h.2⟩
theorem par_anyIn (hF : WideF P F) {free tail : List Oper} {ss : List Spc} (hpb : parB free tail = true) (hl : ss.length = free.length) (hfr : ∀ o ∈ free, look L (o.dst.getD 1000000) = none) (hndf : ∀ o ∈ free, noDefer o.op = true) (hL : LateOK (free ++ tail).toArray ss) (hab : ∀ (i : Nat) (s : Spc) (c : List PanicEntry), ss[i]? = some s → s.ab = some c → Imp W n D L M R (Q (.panic c)))
    (hstep : ∀ i o s, free[i]? = some o → ss[i]? = some s → Step1 P W n M R (free ++ tail).toArray ss i o s (detL (free.take i) (ss.take i) L))
    (hfin : Fin W n D (wpListIn F m0 P (free ++ tail).toArray Q tail) free ss L M R) :
    ∀ (fuel : Nat) (listed : Array Bool) (a : Act) (w : World), J W n D L M R (free ++ tail).toArray free ss listed a w → unl (free ++ tail).length listed ≤ fuel → wpAnyIn F m0 P .any (free ++ tail).toArray Q fuel listed a w := by
  simp only [parB, Bool.and_eq_true] at hpb
  obtain ⟨⟨⟨⟨hns, hfree⟩, hnd0⟩, hback⟩, htail⟩ := hpb
  have hnd := injB_sound hnd0
  have hmN : free.length ≤ (free ++ tail).length := by simp
  have hmask : ∀ listed', Closed (free ++ tail).toArray listed' → ∀ i o, free.length ≤ i → (free ++ tail).toArray[i]? = some o → (∀ e ∈ o.after, Region.binds .any e = true → listed'.getD e.on false = true) → ∀ j, j < i → listed'.getD j false = true := by
    intro listed' hc i o hi ho hp j hj
    have hlt : i < (free ++ tail).length := by simpa using (Array.getElem?_eq_some_iff.1 ho).1
    have h1 := List.all_eq_true.1 htail i (List.mem_range.2 hlt)
    simp only [Bool.or_eq_true] at h1
    rcases h1 with h1 | h1
    · have : i < free.length := by simpa using h1
      omega
    · have h2 := List.all_eq_true.1 h1 j (List.mem_range.2 hj)
      exact (masks_sound hc (free ++ tail) [] (fun j => by simp) (fun i hi => by simp at hi)).1 i o (Nat.zero_le _) ho hp j h2
  have hbk : ∀ i o, (free ++ tail).toArray[i]? = some o → ∀ e ∈ o.after, Region.binds .any e = true → e.on < i := by
    intro i o ho e he hbi
    have hlt : i < (free ++ tail).length := by simpa using (Array.getElem?_eq_some_iff.1 ho).1
    have := List.all_eq_true.1 hback i (List.mem_range.2 hlt)
    rw [show (free ++ tail)[i]? = some o from by simpa using ho] at this
    have := Array.all_eq_true_iff_forall_mem.1 this e he
    simpa [hbi] using this
  intro fuel
  induction fuel with
  | zero =>
    intro listed a w hJ hu
    have hall : ∀ i, i < free.length → listed.getD i false = true := by
      intro i hi
      cases h : listed.getD i true with
      | true =>
        have : i < listed.size := by rw [hJ.size]; simp; omega
        simp [this] at h ⊢; exact h
      | false =>
        have hsz : listed.size = (free ++ tail).length := by rw [hJ.size]; simp
        have := unl_set (N := (free ++ tail).length) (i := i) (by omega) hsz h
        omega
    obtain ⟨g, hg, hS⟩ := hJ.vals
    refine wpAnyIn_tail (by simpa using hback) ((free ++ tail).length - free.length) free.length 0 listed a w (by simp) (Nat.le_trans (unl_ge (fun i h1 h2 => hJ.late i h1 (by simpa using h2))) hu) hJ.size hJ.closed hall (fun i h1 h2 => hJ.late i h1 h2) hmask ?_
    have hd : ((free ++ tail).toArray).toList.drop free.length = tail := by simp
    rw [hd]
    have hsame : resOf ss listed g free.length = lastOf ss g free.length := by
      refine flatMap_same _ _ _ fun j hj => ?_
      have := List.mem_range.1 hj
      rw [hall j this, if_pos rfl]
      cases hsj : ss[j]? with
      | none => rfl
      | some sj =>
        unfold Spc.rsL Spc.last
        cases hl2 : sj.late with
        | none => simp [hl2]
        | some kr =>
          obtain ⟨k, r⟩ := kr
          have hk := (hL j sj k r hsj hl2).1
          simp [hl2, hall k (by omega)]
    have hsamf : ∀ (f : Spc → Value → List Fact), ((List.range free.length).flatMap fun i => if listed.getD i false then (match ss[i]? with | some s => f s (g i) | none => []) else []) = ((List.range free.length).flatMap fun i => if (Array.replicate free.length true).getD i false then (match ss[i]? with | some s => f s (g i) | none => []) else []) := by
      intro f
      refine flatMap_same _ _ _ fun j hj => ?_
      have := List.mem_range.1 hj
      rw [hall j this]; simp [this]
    refine fin_use free ss L M R hl hfin g a w hJ.defers hJ.frame hnd (fun i o s e1 e2 => hg i o s e1 e2 (hall i (List.getElem?_eq_some_iff.1 e1).1)) ?_
    rw [hsame] at hS
    have hfe : fctOf ss listed g free.length = fctOf ss (Array.replicate free.length true) g free.length := hsamf Spc.fs
    rw [hfe] at hS
    exact hS
  | succ fuel ih =>
    intro listed a w hJ hu
    by_cases hall : ∀ i, i < free.length → listed.getD i false = true
    · obtain ⟨g, hg, hS⟩ := hJ.vals
      refine wpAnyIn_tail (by simpa using hback) ((free ++ tail).length - free.length) free.length (fuel + 1) listed a w (by simp) (Nat.le_trans (unl_ge (fun i h1 h2 => hJ.late i h1 (by simpa using h2))) hu) hJ.size hJ.closed hall (fun i h1 h2 => hJ.late i h1 h2) hmask ?_
      have hd : ((free ++ tail).toArray).toList.drop free.length = tail := by simp
      rw [hd]
      have hsame : resOf ss listed g free.length = lastOf ss g free.length := by
        refine flatMap_same _ _ _ fun j hj => ?_
        have := List.mem_range.1 hj
        rw [hall j this, if_pos rfl]
        cases hsj : ss[j]? with
        | none => rfl
        | some sj =>
          unfold Spc.rsL Spc.last
          cases hl2 : sj.late with
          | none => simp [hl2]
          | some kr =>
            obtain ⟨k, r⟩ := kr
            have hk := (hL j sj k r hsj hl2).1
            simp [hl2, hall k (by omega)]
      have hsamf : ∀ (f : Spc → Value → List Fact), ((List.range free.length).flatMap fun i => if listed.getD i false then (match ss[i]? with | some s => f s (g i) | none => []) else []) = ((List.range free.length).flatMap fun i => if (Array.replicate free.length true).getD i false then (match ss[i]? with | some s => f s (g i) | none => []) else []) := by
        intro f
        refine flatMap_same _ _ _ fun j hj => ?_
        have := List.mem_range.1 hj
        rw [hall j this]; simp [this]
      refine fin_use free ss L M R hl hfin g a w hJ.defers hJ.frame hnd (fun i o s e1 e2 => hg i o s e1 e2 (hall i (List.getElem?_eq_some_iff.1 e1).1)) ?_
      rw [hsame] at hS
      have hfe : fctOf ss listed g free.length = fctOf ss (Array.replicate free.length true) g free.length := hsamf Spc.fs
      rw [hfe] at hS
      exact hS
    · have hex : ∃ i, i < free.length ∧ listed.getD i false = false := by
        apply Classical.byContradiction
        intro hne
        refine hall fun i hi => ?_
        cases h : listed.getD i false
        · exact absurd ⟨i, hi, h⟩ hne
        · rfl
      obtain ⟨k, ⟨hk, hkf⟩, hkm⟩ := least hex
      have hkt : listed.getD k true = false := by
        have : k < listed.size := by rw [hJ.size]; simp; omega
        simp [this] at hkf ⊢; exact hkf
      have hready : k ∈ Region.ready .any (free ++ tail).toArray listed := by
        refine mem_ready.2 ⟨hkt, (free ++ tail)[k]'(by simp; omega), by simp [List.getElem?_eq_getElem (show k < (free ++ tail).length by simp; omega)], fun e he hbi => ?_⟩
        have hlt := hbk k _ (by simp [List.getElem?_eq_getElem (show k < (free ++ tail).length by simp; omega)]) e he hbi
        cases h : listed.getD e.on false
        · exact absurd ⟨by omega, h⟩ (hkm e.on hlt)
        · rfl
      refine ⟨fun h0 => (by rw [h0] at hready; cases hready), fun i hi => ?_⟩
      obtain ⟨h0, o, hoi, hp⟩ := mem_ready.1 hi
      have him : i < free.length := by
        rcases Nat.lt_or_ge i free.length with h' | h'
        · exact h'
        · have := hmask listed hJ.closed i o h' hoi hp k (by omega)
          rw [hkf] at this; cases this
      have ho : free[i]? = some o := by
        have h1 : (free ++ tail)[i]? = some o := by simpa using hoi
        rwa [List.getElem?_append_left him] at h1
      have hsi : i < ss.length := by omega
      have hs : ss[i]? = some ss[i] := List.getElem?_eq_getElem hsi
      have st := hstep i o ss[i] ho hs
      obtain ⟨fops, fgd⟩ := freeB_spec hfree ho
      obtain ⟨a', f1, f2, f3⟩ := mk_frame (n := n) (free.take i) (ss.take i) hJ.frame (fun j p sj e1 e2 => by
        have hji : j < i := by have := (List.getElem?_eq_some_iff.1 e1).1; simp at this; omega
        rw [List.getElem?_take, if_pos hji] at e1 e2
        exact (hstep j p sj e1 e2).lt) (hnd.take i)
      obtain ⟨g, hg, hS⟩ := hJ.vals
      have hag : ∀ t, (∀ j p, free[j]? = some p → p.dst.getD 1000000 = t → j < i → listed.getD j false = true) → a'.tmps[t]? = a.tmps[t]? := by
        intro t ht
        by_cases hex2 : ∃ (j : Nat) (p : Oper) (s : Spc) (v : Value), (free.take i)[j]? = some p ∧ (ss.take i)[j]? = some s ∧ s.det = some v ∧ p.dst.getD 1000000 = t
        · obtain ⟨j, p, s, v, e1, e2, e3, e4⟩ := hex2
          have hji : j < i := by have := (List.getElem?_eq_some_iff.1 e1).1; simp at this; omega
          have e1' : free[j]? = some p := by rw [List.getElem?_take, if_pos hji] at e1; exact e1
          have e2' : ss[j]? = some s := by rw [List.getElem?_take, if_pos hji] at e2; exact e2
          have hlj := ht j p e1' e4 hji
          obtain ⟨k1, k2⟩ := hg j p s e1' e2' hlj
          have hgv : g j = v := by simpa [Spc.val, e3] using k1
          obtain ⟨dj, hdj⟩ : ∃ d, p.dst = some d := by
            have := (hstep j p s e1' e2').lt
            cases hod : p.dst with
            | none => rw [hod, e3] at this; simp at this
            | some d => exact ⟨d, rfl⟩
          rw [← e4, f3 j p s v e1 e2 e3, show p.dst.getD 1000000 = dj from by simp [hdj], k2 dj hdj, hgv]
        · exact f2 t (fun j p s v e1 e2 e3 e4 => hex2 ⟨j, p, s, v, e1, e2, e3, e4⟩)
      have hev : ∀ x ∈ o.op.operands, a.eval x = a'.eval x := by
        intro x hx
        cases x with
        | tmp t =>
          have := hag t (fun j p e1 e2 _ => by
            obtain ⟨e, he, hbi, hon⟩ := depOn_spec (fops j p e1 (by
              rw [e2]; unfold tmpsOf
              exact List.mem_filterMap.2 ⟨.tmp t, by simpa using hx, rfl⟩))
            have := hp e he hbi
            rwa [hon] at this)
          simp [Act.eval, this]
        | const v => rfl
        | global v => rfl
        | func v => rfl
      have hex3 : execOp a.eval o = execOp a'.eval o := execOp_congr o (Region.noSelect_spec hns i o · · hoi) hev
      have hyl : ∀ j b, o.guard = some (j, b) → yielded (free ++ tail).toArray a.tmps j = yielded (free ++ tail).toArray a'.tmps j := by
        intro j b hgd
        obtain ⟨hdep, hjl, hdsome⟩ := fgd j b hgd
        obtain ⟨e, he, hbi, hon⟩ := depOn_spec hdep
        have hlj : listed.getD j false = true := by have := hp e he hbi; rwa [hon] at this
        have hoj : free[j]? = some free[j] := List.getElem?_eq_getElem hjl
        have hopj : (free ++ tail).toArray[j]? = some free[j] := by
          have : (free ++ tail)[j]? = some free[j] := by rw [List.getElem?_append_left hjl]; exact hoj
          simpa using this
        unfold yielded
        rw [hopj]
        obtain ⟨dj, hdj⟩ := Option.isSome_iff_exists.1 (hdsome _ hoj)
        simp only [Option.bind_some, hdj]
        rw [hag dj (fun j' p e1 e2 _ => by
          have := hnd j j' _ _ hoj e1 (by simp [hdj]) (by rw [e2]; simp [hdj])
          rw [← this]; exact hlj)]
      have hsep : (resOf ss listed g free.length ++ M).Perm (restOf ss listed g free.length i ++ (ss[i].pre ++ M)) := by
        have p1 : (resOf ss listed g free.length).Perm (ss[i].pre ++ restOf ss listed g free.length i) := by
          refine flatMap_upd _ _ i _ him _ ?_ ?_ ?_
          · simp
          · simp only [getD_both h0]; simp [hs]
          · intro j hj; simp [hj]
        refine (p1.append_right M).trans ?_
        rw [← List.append_assoc]
        exact List.perm_append_comm.append_right M
      have hS1 := hS.perm hsep
      have hgo : ss[i].of = none → ∀ v w', ss[i].val v → St W (ss[i].rs v ++ (restOf ss listed g free.length i ++ M)) (ss[i].fs v ++ (fctOf ss listed g free.length ++ R)) w' →
          wpAnyIn F m0 P .any (free ++ tail).toArray Q fuel (listed.setIfInBounds i true) (a.put o.dst v) w' := by
        intro hof v w' hv hst
        refine ih _ _ _ (hJ.next hnd hfr (by simp) hi hoi ho hs st.lt hv hof hL hg hst) ?_
        have hsz : listed.size = (free ++ tail).length := by rw [hJ.size]; simp
        have := unl_set (N := (free ++ tail).length) (i := i) (by omega) hsz h0
        omega
      unfold wpOpIn
      simp only [hoi]
      rcases st.run with ⟨hof, ⟨hgd, hop⟩ | ⟨j, b, hgd, hsd, hsq⟩ | ⟨hgd, j, oj, sj, hoj, hsj, hdj, hdep, hop⟩ | ⟨hgd, hsu, j, oj, sj, hoj, hsj, hdj, hlt0, hdep, hop⟩⟩ | ⟨hgd, j, oj, sj, r, det, pval, ab, fct, hsu, hoj, hsj, hdj, hlt0, hdep, hop⟩ | ⟨hgd, j, oj, sj, r, det, pval, res, q, oq, sq, hsu, hoj, hsj, hdj, hlt0, hdep, hoq, hsq, hdq, hdepq, hop⟩
      · have hw : Region.wanted o (yielded (free ++ tail).toArray a.tmps) = true := by
          rcases hgd with hgd | ⟨j, b, hgd, hsd⟩
          · simp [Region.wanted, hgd]
          · simp only [Region.wanted, hgd, hyl j b hgd, said_sound f1 hsd]; simp
        rw [if_pos hw]
        refine opIn_of_wp hF (hndf o (List.mem_of_getElem? ho)) ?_
        unfold Oper.wp
        have h3 := hop (restOf ss listed g free.length i) (fctOf ss listed g free.length) a' w f1 hS1
        rw [hex3]
        generalize (execOp a'.eval o).run P w = r at h3
        cases r with
        | ok x w' =>
          cases x <;> simp only [upG] at h3
          case value v => exact hgo hof v w' h3.1 h3.2
          case skip => exact hgo hof undef w' h3.1 h3.2
          case enter f args =>
            obtain ⟨rfl, hc⟩ := h3
            refine hc.mono ?_
            rintro e w'' (⟨v, rfl, h4, h5⟩ | ⟨c, rfl, hc1, Y, hc2⟩)
            · exact hgo hof v w'' h4 h5
            · exact hab i ss[i] c hs hc1 a w'' hJ.frame hJ.defers (hc2.drop2 (fun φ hφ => List.mem_append_right _ hφ))
        | halt x w' => exact h3.elim
      · have hw : ¬ Region.wanted o (yielded (free ++ tail).toArray a.tmps) = true := by
          simp only [Region.wanted, hgd, hyl j b hgd, saidNo_sound f1 hsd]; simp
        rw [if_neg hw]
        refine ⟨fun f _ => hF.fn f, ?_⟩
        refine hgo hof undef w ?_ ?_
        · rw [hsq]; rfl
        · have hS2 := hS1
          rw [hsq] at hS2 ⊢
          exact hS2
      · have hw : Region.wanted o (yielded (free ++ tail).toArray a.tmps) = true := by simp [Region.wanted, hgd]
        rw [if_pos hw]
        refine opIn_of_wp hF (hndf o (List.mem_of_getElem? ho)) ?_
        unfold Oper.wp
        have hjl : j < free.length := by have := (List.getElem?_eq_some_iff.1 hsj).1; omega
        have hoj' : free[j]? = some oj := by
          have h1 : (free ++ tail)[j]? = some oj := by simpa using hoj
          rwa [List.getElem?_append_left hjl] at h1
        obtain ⟨e, he, hbi, hon⟩ := depOn_spec (depD_on hdep)
        have hlj : listed.getD j false = true := by have := hp e he hbi; rwa [hon] at this
        obtain ⟨k1, k2⟩ := hg j oj sj hoj' hsj hlj
        have hpv : sj.pval (g j) := by simpa [Spc.val, hdj] using k1
        have hsub : ∀ φ ∈ sj.fct (g j), φ ∈ fctOf ss listed g free.length := by
          intro φ hφ
          unfold fctOf
          refine List.mem_flatMap.2 ⟨j, List.mem_range.2 hjl, ?_⟩
          rw [hlj, hsj]
          simpa [Spc.fs, hdj] using hφ
        have hka : a'.tmps[oj.dst.getD 1000000]? = some (g j) := by
          rw [hag (oj.dst.getD 1000000) (fun j' p e1 e2 _ => by
            have := hnd j j' _ _ hoj' e1 (depD_some hoj hdep) e2.symm
            rw [← this]; exact hlj)]
          obtain ⟨dj, hdj'⟩ := Option.isSome_iff_exists.1 (depD_some hoj hdep)
          rw [show oj.dst.getD 1000000 = dj from by simp [hdj']]
          exact k2 dj hdj'
        have f1' : FSat n ((oj.dst.getD 1000000, g j) :: detL (free.take i) (ss.take i) L) a' := by
          refine ⟨f1.size, fun t v hv => ?_⟩
          by_cases et : oj.dst.getD 1000000 = t
          · subst et
            rw [look_cons_eq] at hv
            cases hv; exact hka
          · rw [look_cons_ne et] at hv
            exact f1.vals t v hv
        have hS' : St W (restOf ss listed g free.length i ++ (ss[i].pre ++ M)) (fctOf ss listed g free.length ++ (sj.fct (g j) ++ R)) w := hS1.weak (fun φ hφ => by
          rcases List.mem_append.1 hφ with h | h
          · exact List.mem_append_left _ h
          · rcases List.mem_append.1 h with h | h
            · exact List.mem_append_left _ (hsub φ h)
            · exact List.mem_append_right _ h)
        have hback : ∀ {X : List Res} {Y : List Fact} {w' : World}, St W X (Y ++ (fctOf ss listed g free.length ++ (sj.fct (g j) ++ R))) w' → St W X (Y ++ (fctOf ss listed g free.length ++ R)) w' := fun h => h.weak (fun φ hφ => by
          rcases List.mem_append.1 hφ with h | h
          · exact List.mem_append_left _ h
          · rcases List.mem_append.1 h with h | h
            · exact List.mem_append_right _ (List.mem_append_left _ h)
            · exact List.mem_append_right _ (List.mem_append_right _ (List.mem_append_right _ h)))
        have h3 := hop (g j) hpv (restOf ss listed g free.length i) (fctOf ss listed g free.length) a' w f1' hS'
        rw [hex3]
        generalize (execOp a'.eval o).run P w = r at h3
        cases r with
        | ok x w' =>
          cases x <;> simp only [upG] at h3
          case value v => exact hgo hof v w' h3.1 (hback h3.2)
          case skip => exact hgo hof undef w' h3.1 (hback h3.2)
          case enter f args =>
            obtain ⟨rfl, hc⟩ := h3
            refine hc.mono ?_
            rintro e w'' (⟨v, rfl, h4, h5⟩ | ⟨c, rfl, hc1, Y, hc2⟩)
            · exact hgo hof v w'' h4 (hback h5)
            · exact hab i ss[i] c hs hc1 a w'' hJ.frame hJ.defers (hc2.drop2 (fun φ hφ => List.mem_append_right _ (List.mem_append_right _ hφ)))
        | halt x w' => exact h3.elim
      · have hw : Region.wanted o (yielded (free ++ tail).toArray a.tmps) = true := by simp [Region.wanted, hgd]
        rw [if_pos hw]
        refine opIn_of_wp hF (hndf o (List.mem_of_getElem? ho)) ?_
        unfold Oper.wp
        have hjl : j < free.length := by have := (List.getElem?_eq_some_iff.1 hsj).1; omega
        have hoj' : free[j]? = some oj := by
          have h1 : (free ++ tail)[j]? = some oj := by simpa using hoj
          rwa [List.getElem?_append_left hjl] at h1
        obtain ⟨e, he, hbi, hon⟩ := depOn_spec (depD_on hdep)
        have hlj : listed.getD j false = true := by have := hp e he hbi; rwa [hon] at this
        obtain ⟨k1, k2⟩ := hg j oj sj hoj' hsj hlj
        have hpv : sj.pval (g j) := by simpa [Spc.val, hdj] using k1
        have hsub : ∀ φ ∈ sj.fct (g j), φ ∈ fctOf ss listed g free.length := by
          intro φ hφ
          unfold fctOf
          refine List.mem_flatMap.2 ⟨j, List.mem_range.2 hjl, ?_⟩
          rw [hlj, hsj]
          simpa [Spc.fs, hdj] using hφ
        have hka : a'.tmps[oj.dst.getD 1000000]? = some (g j) := by
          rw [hag (oj.dst.getD 1000000) (fun j' p e1 e2 _ => by
            have := hnd j j' _ _ hoj' e1 (depD_some hoj hdep) e2.symm
            rw [← this]; exact hlj)]
          obtain ⟨dj, hdj'⟩ := Option.isSome_iff_exists.1 (depD_some hoj hdep)
          rw [show oj.dst.getD 1000000 = dj from by simp [hdj']]
          exact k2 dj hdj'
        have f1' : FSat n ((oj.dst.getD 1000000, g j) :: detL (free.take i) (ss.take i) L) a' := by
          refine ⟨f1.size, fun t v hv => ?_⟩
          by_cases et : oj.dst.getD 1000000 = t
          · subst et
            rw [look_cons_eq] at hv
            cases hv; exact hka
          · rw [look_cons_ne et] at hv
            exact f1.vals t v hv
        have hpre : ss[i].pre = [] := by rw [hsu]; rfl
        have hrs : ∀ v, ss[i].rs v = [] := fun v => by rw [hsu]; rfl
        have hfs : ∀ v, ss[i].fs v = [] := fun v => by rw [hsu]; rfl
        have hval : ∀ v, ss[i].val v := fun v => by rw [hsu]; trivial
        have hne : j ≠ i := by
          intro e; subst e
          rw [getD_both h0] at hlj; cases hlj
        obtain ⟨X, hX⟩ : ∃ X, (restOf ss listed g free.length i).Perm (sj.res (g j) ++ X) := by
          refine ⟨(List.range free.length).flatMap fun t => if t = j then [] else if t = i then [] else if listed.getD t false then (match ss[t]? with | some s => s.rsL listed (g t) | none => []) else (match ss[t]? with | some s => s.pre | none => []), ?_⟩
          refine flatMap_upd _ _ j _ hjl _ ?_ ?_ ?_
          · simp
          · simp only [hne, if_false, hlj, if_true, hsj]; unfold Spc.rsL; rw [hlt0]
          · intro t ht
            rw [if_neg ht]
            rfl
        have hS1 : St W (X ++ (sj.res (g j) ++ M)) (fctOf ss listed g free.length ++ R) w := by
          refine hS1.perm ?_
          rw [hpre, List.nil_append, ← List.append_assoc]
          exact (hX.trans List.perm_append_comm).append_right M
        have hS' : St W (X ++ (sj.res (g j) ++ M)) (fctOf ss listed g free.length ++ (sj.fct (g j) ++ R)) w := hS1.weak (fun φ hφ => by
          rcases List.mem_append.1 hφ with h | h
          · exact List.mem_append_left _ h
          · rcases List.mem_append.1 h with h | h
            · exact List.mem_append_left _ (hsub φ h)
            · exact List.mem_append_right _ h)
        have hback : ∀ {X : List Res} {Y : List Fact} {w' : World}, St W X (Y ++ (fctOf ss listed g free.length ++ (sj.fct (g j) ++ R))) w' → St W X (Y ++ (fctOf ss listed g free.length ++ R)) w' := fun h => h.weak (fun φ hφ => by
          rcases List.mem_append.1 hφ with h | h
          · exact List.mem_append_left _ h
          · rcases List.mem_append.1 h with h | h
            · exact List.mem_append_right _ (List.mem_append_left _ h)
            · exact List.mem_append_right _ (List.mem_append_right _ (List.mem_append_right _ h)))
        have hfin : ∀ {v : Value} {w' : World}, St W (sj.res (g j) ++ (X ++ M)) (fctOf ss listed g free.length ++ (sj.fct (g j) ++ R)) w' → St W (ss[i].rs v ++ (restOf ss listed g free.length i ++ M)) (ss[i].fs v ++ (fctOf ss listed g free.length ++ R)) w' := fun {v w'} h => by
          rw [hrs, hfs]
          refine (hback (Y := []) h).perm ?_
          simp only [List.nil_append]
          rw [← List.append_assoc]
          exact hX.symm.append_right M
        have h3 := hop (g j) hpv X (fctOf ss listed g free.length) a' w f1' hS'
        rw [hex3]
        generalize (execOp a'.eval o).run P w = r at h3
        cases r with
        | ok x w' =>
          cases x <;> simp only [upG] at h3
          case value v => exact hgo hof v w' (hval v) (hfin h3.2)
          case skip => exact hgo hof undef w' (hval _) (hfin h3.2)
          case enter f args =>
            obtain ⟨rfl, hc⟩ := h3
            refine hc.mono ?_
            rintro e w'' (⟨v, rfl, h4, h5⟩ | ⟨c, rfl, hc1, Y, hc2⟩)
            · exact hgo hof v w'' (hval v) (hfin h5)
            · cases hc1
        | halt x w' => exact h3.elim
      · have hw : Region.wanted o (yielded (free ++ tail).toArray a.tmps) = true := by simp [Region.wanted, hgd]
        rw [if_pos hw]
        refine opIn_of_wp hF (hndf o (List.mem_of_getElem? ho)) ?_
        unfold Oper.wp
        have hjl : j < free.length := by have := (List.getElem?_eq_some_iff.1 hsj).1; omega
        have hoj' : free[j]? = some oj := by
          have h1 : (free ++ tail)[j]? = some oj := by simpa using hoj
          rwa [List.getElem?_append_left hjl] at h1
        obtain ⟨e, he, hbi, hon⟩ := depOn_spec (depD_on hdep)
        have hlj : listed.getD j false = true := by have := hp e he hbi; rwa [hon] at this
        obtain ⟨k1, k2⟩ := hg j oj sj hoj' hsj hlj
        have hpv : sj.pval (g j) := by simpa [Spc.val, hdj] using k1
        have hsub : ∀ φ ∈ sj.fct (g j), φ ∈ fctOf ss listed g free.length := by
          intro φ hφ
          unfold fctOf
          refine List.mem_flatMap.2 ⟨j, List.mem_range.2 hjl, ?_⟩
          rw [hlj, hsj]
          simpa [Spc.fs, hdj] using hφ
        have hka : a'.tmps[oj.dst.getD 1000000]? = some (g j) := by
          rw [hag (oj.dst.getD 1000000) (fun j' p e1 e2 _ => by
            have := hnd j j' _ _ hoj' e1 (depD_some hoj hdep) e2.symm
            rw [← this]; exact hlj)]
          obtain ⟨dj, hdj'⟩ := Option.isSome_iff_exists.1 (depD_some hoj hdep)
          rw [show oj.dst.getD 1000000 = dj from by simp [hdj']]
          exact k2 dj hdj'
        have f1' : FSat n ((oj.dst.getD 1000000, g j) :: detL (free.take i) (ss.take i) L) a' := by
          refine ⟨f1.size, fun t v hv => ?_⟩
          by_cases et : oj.dst.getD 1000000 = t
          · subst et
            rw [look_cons_eq] at hv
            cases hv; exact hka
          · rw [look_cons_ne et] at hv
            exact f1.vals t v hv
        have hpre : ss[i].pre = [] := by rw [hsu]; rfl
        have hne : j ≠ i := by
          intro e; subst e
          rw [getD_both h0] at hlj; cases hlj
        obtain ⟨X, hXe, hX⟩ : ∃ X, X = ((List.range free.length).flatMap fun t => if t = j then [] else if t = i then [] else if listed.getD t false then (match ss[t]? with | some s => s.rsL listed (g t) | none => []) else (match ss[t]? with | some s => s.pre | none => [])) ∧ (restOf ss listed g free.length i).Perm (sj.res (g j) ++ X) := by
          refine ⟨_, rfl, ?_⟩
          refine flatMap_upd _ _ j _ hjl _ ?_ ?_ ?_
          · simp
          · simp only [hne, if_false, hlj, if_true, hsj]; unfold Spc.rsL; rw [hlt0]; simp only [getD_both h0]; rfl
          · intro t ht
            rw [if_neg ht]
            rfl
        have hS1 : St W (X ++ (sj.res (g j) ++ M)) (fctOf ss listed g free.length ++ R) w := by
          refine hS1.perm ?_
          rw [hpre, List.nil_append, ← List.append_assoc]
          exact (hX.trans List.perm_append_comm).append_right M
        have hS' : St W (X ++ (sj.res (g j) ++ M)) (fctOf ss listed g free.length ++ (sj.fct (g j) ++ R)) w := hS1.weak (fun φ hφ => by
          rcases List.mem_append.1 hφ with h | h
          · exact List.mem_append_left _ h
          · rcases List.mem_append.1 h with h | h
            · exact List.mem_append_left _ (hsub φ h)
            · exact List.mem_append_right _ h)
        have hback : ∀ {X : List Res} {Y : List Fact} {w' : World}, St W X (Y ++ (fctOf ss listed g free.length ++ (sj.fct (g j) ++ R))) w' → St W X (Y ++ (fctOf ss listed g free.length ++ R)) w' := fun h => h.weak (fun φ hφ => by
          rcases List.mem_append.1 hφ with h | h
          · exact List.mem_append_left _ h
          · rcases List.mem_append.1 h with h | h
            · exact List.mem_append_right _ (List.mem_append_left _ h)
            · exact List.mem_append_right _ (List.mem_append_right _ (List.mem_append_right _ h)))
        have hs5 : ss[i]? = some (Spc.s5 det pval j ab fct) := by rw [hs, hsu]
        have hlt5 : (match o.dst with | some d => Nat.blt d n | none => (Spc.s5 det pval j ab fct).det.isNone) = true := by have := st.lt; rw [hsu] at this; exact this
        have hgo5 : ∀ {v : Value} {w' : World}, (Spc.s5 det pval j ab fct).val v → St W (r (g j) ++ (X ++ M)) (fct v ++ (fctOf ss listed g free.length ++ (sj.fct (g j) ++ R))) w' → wpAnyIn F m0 P .any (free ++ tail).toArray Q fuel (listed.setIfInBounds i true) (a.put o.dst v) w' := fun {v w'} hv5 h => by
          have h := hback (Y := fct v) h
          rw [hXe] at h
          refine ih _ _ _ (hJ.next5 hnd hfr (by simp) hi hoi ho hs5 hv5 hlt5 hL hsj hlt0 hlj hjl hg h) ?_
          have hsz : listed.size = (free ++ tail).length := by rw [hJ.size]; simp
          have := unl_set (N := (free ++ tail).length) (i := i) (by omega) hsz h0
          omega
        have h3 := hop (g j) hpv X (fctOf ss listed g free.length) a' w f1' hS'
        rw [hex3]
        generalize (execOp a'.eval o).run P w = r at h3
        cases r with
        | ok x w' =>
          cases x <;> simp only [upG] at h3
          case value v => exact hgo5 h3.1 h3.2
          case skip => exact hgo5 h3.1 h3.2
          case enter f args =>
            obtain ⟨rfl, hc⟩ := h3
            refine hc.mono ?_
            rintro e w'' (⟨v, rfl, h4, h5⟩ | ⟨c, rfl, hc1, Y, hc2⟩)
            · exact hgo5 h4 h5
            · exact hab i ss[i] c hs (by rw [hsu]; exact hc1) a w'' hJ.frame hJ.defers (hc2.drop2 (fun φ hφ => List.mem_append_right _ (List.mem_append_right _ hφ)))
        | halt x w' => exact h3.elim
      · have hw : Region.wanted o (yielded (free ++ tail).toArray a.tmps) = true := by simp [Region.wanted, hgd]
        rw [if_pos hw]
        refine opIn_of_wp hF (hndf o (List.mem_of_getElem? ho)) ?_
        unfold Oper.wp
        have dep : ∀ (j : Nat) (oj : Oper) (sj : Spc), (free ++ tail).toArray[j]? = some oj → ss[j]? = some sj → sj.det = none → depD (free ++ tail).toArray o j = true → j < free.length ∧ listed.getD j false = true ∧ sj.pval (g j) ∧ (∀ φ ∈ sj.fct (g j), φ ∈ fctOf ss listed g free.length) ∧ a'.tmps[oj.dst.getD 1000000]? = some (g j) := by
          intro j oj sj hoj hsj hdj hdep
          have hjl : j < free.length := by have := (List.getElem?_eq_some_iff.1 hsj).1; omega
          have hoj' : free[j]? = some oj := by
            have h1 : (free ++ tail)[j]? = some oj := by simpa using hoj
            rwa [List.getElem?_append_left hjl] at h1
          obtain ⟨e, he, hbi, hon⟩ := depOn_spec (depD_on hdep)
          have hlj : listed.getD j false = true := by have := hp e he hbi; rwa [hon] at this
          obtain ⟨k1, k2⟩ := hg j oj sj hoj' hsj hlj
          refine ⟨hjl, hlj, by simpa [Spc.val, hdj] using k1, ?_, ?_⟩
          · intro φ hφ
            unfold fctOf
            refine List.mem_flatMap.2 ⟨j, List.mem_range.2 hjl, ?_⟩
            rw [hlj, hsj]
            simpa [Spc.fs, hdj] using hφ
          · rw [hag (oj.dst.getD 1000000) (fun j' p e1 e2 _ => by
              have := hnd j j' _ _ hoj' e1 (depD_some hoj hdep) e2.symm
              rw [← this]; exact hlj)]
            obtain ⟨dj, hdj'⟩ := Option.isSome_iff_exists.1 (depD_some hoj hdep)
            rw [show oj.dst.getD 1000000 = dj from by simp [hdj']]
            exact k2 dj hdj'
        obtain ⟨hjl, hlj, hpv, hsub, hka⟩ := dep j oj sj hoj hsj hdj hdep
        obtain ⟨hql, hlq, hpq, hsubq, hkq⟩ := dep q oq sq hoq hsq hdq hdepq
        have f1' : FSat n ((oq.dst.getD 1000000, g q) :: (oj.dst.getD 1000000, g j) :: detL (free.take i) (ss.take i) L) a' := (f1.add hka).add hkq
        have hpre : ss[i].pre = [] := by rw [hsu]; rfl
        have hne : j ≠ i := by
          intro e; subst e
          rw [getD_both h0] at hlj; cases hlj
        obtain ⟨X, hXe, hX⟩ : ∃ X, X = ((List.range free.length).flatMap fun t => if t = j then [] else if t = i then [] else if listed.getD t false then (match ss[t]? with | some s => s.rsL listed (g t) | none => []) else (match ss[t]? with | some s => s.pre | none => [])) ∧ (restOf ss listed g free.length i).Perm (sj.res (g j) ++ X) := by
          refine ⟨_, rfl, ?_⟩
          refine flatMap_upd _ _ j _ hjl _ ?_ ?_ ?_
          · simp
          · simp only [hne, if_false, hlj, if_true, hsj]; unfold Spc.rsL; rw [hlt0]; simp only [getD_both h0]; rfl
          · intro t ht
            rw [if_neg ht]
            rfl
        have hS1 : St W (X ++ (sj.res (g j) ++ M)) (fctOf ss listed g free.length ++ R) w := by
          refine hS1.perm ?_
          rw [hpre, List.nil_append, ← List.append_assoc]
          exact (hX.trans List.perm_append_comm).append_right M
        have hS' : St W (X ++ (sj.res (g j) ++ M)) (fctOf ss listed g free.length ++ (sq.fct (g q) ++ (sj.fct (g j) ++ R))) w := hS1.weak (fun φ hφ => by
          rcases List.mem_append.1 hφ with h | h
          · exact List.mem_append_left _ h
          · rcases List.mem_append.1 h with h | h
            · exact List.mem_append_left _ (hsubq φ h)
            · rcases List.mem_append.1 h with h | h
              · exact List.mem_append_left _ (hsub φ h)
              · exact List.mem_append_right _ h)
        have hs6 : ss[i]? = some (Spc.s6 det pval res j) := by rw [hs, hsu]
        have hlt6 : (match o.dst with | some d => Nat.blt d n | none => (Spc.s6 det pval res j).det.isNone) = true := by have := st.lt; rw [hsu] at this; exact this
        have hgo6 : ∀ {v : Value} {w' : World}, (Spc.s6 det pval res j).val v → St W ((res v ++ r (g j)) ++ (X ++ M)) (fctOf ss listed g free.length ++ (sq.fct (g q) ++ (sj.fct (g j) ++ R))) w' → wpAnyIn F m0 P .any (free ++ tail).toArray Q fuel (listed.setIfInBounds i true) (a.put o.dst v) w' := fun {v w'} hv6 h => by
          have h : St W ((res v ++ r (g j)) ++ (X ++ M)) (fctOf ss listed g free.length ++ R) w' := h.weak (fun φ hφ => by
            rcases List.mem_append.1 hφ with h | h
            · exact List.mem_append_left _ h
            · exact List.mem_append_right _ (List.mem_append_right _ (List.mem_append_right _ h)))
          rw [hXe] at h
          refine ih _ _ _ (hJ.next6 hnd hfr (by simp) hi hoi ho hs6 hv6 hlt6 hL hsj hlt0 hlj hjl hg h) ?_
          have hsz : listed.size = (free ++ tail).length := by rw [hJ.size]; simp
          have := unl_set (N := (free ++ tail).length) (i := i) (by omega) hsz h0
          omega
        have h3 := hop (g j) hpv (g q) hpq X (fctOf ss listed g free.length) a' w f1' hS'
        rw [hex3]
        generalize (execOp a'.eval o).run P w = r at h3
        cases r with
        | ok x w' =>
          cases x <;> simp only [upG] at h3
          case value v => exact hgo6 h3.1 h3.2
          case skip => exact hgo6 h3.1 h3.2
          case enter f args =>
            obtain ⟨rfl, hc⟩ := h3
            refine hc.mono ?_
            rintro e w'' (⟨v, rfl, h4, h5⟩ | ⟨c, rfl, hc1, Y, hc2⟩)
            · exact hgo6 h4 h5
            · cases hc1
        | halt x w' => exact h3.elim
theorem r_par_in {id : Nat} {M0 : List Res} (free tail : List Oper) {l : List Oper} (hsplit : l = free ++ tail) (hm : P.follows .mixedOrders = true) (hpb : parB free tail = true) (hndf : ∀ o ∈ free, noDefer o.op = true) (hfr : ∀ o ∈ free, look L (o.dst.getD 1000000) = none)
    (h : ParO P W n M R l.toArray (fun ss => SelM M0 (preOf ss ++ M) ∧ lateX l.toArray ss = true ∧ Fin W n D (wpListIn Fence.wide 0 P l.toArray Q tail) free ss L M R) free [] L) : Imp W n D L M0 R ((Code.region id l.toArray true).wp P Q) := by
  subst hsplit
  intro a w h1 h2 h3
  obtain ⟨ss, hl, hK, hs⟩ := ParO.out free [] L h
  obtain ⟨hM0, hLX, hK⟩ : SelM M0 (preOf ss ++ M) ∧ lateX (free ++ tail).toArray ss = true ∧ Fin W n D (wpListIn Fence.wide 0 P (free ++ tail).toArray Q tail) free ss L M R := by simpa using hK
  have hLB : lateB (free ++ tail).toArray ss 0 ss = true := by have := hLX; simp only [lateX, Bool.and_eq_true] at this; exact this.1
  replace h3 := h3.sel hM0
  refine wpIn_wide.1 (wpIn_region_any (F := Fence.wide) (n := 0) hm (par_anyIn wideF hpb hl hfr hndf (lateOK_of hLB) (fun i s c h1 h2 => (lateX_ab hLX i s c h1 h2).elim) (fun i o s e1 e2 => by have := hs i o s e1 e2; rw [List.length_nil, Nat.zero_add] at this; exact this) hK _ _ a _ ⟨by simp, ?_, ?_, h1, h2, fun _ => undef, ?_, ?_⟩ ?_))
  · intro j o _ hj
    rw [rep_false] at hj; cases hj
  · intro t _ ht
    simp at ht
    simp [ht]
  · intro i o s e1 _ hj
    have : i < free.length := (List.getElem?_eq_some_iff.1 e1).1
    have hi : i < free.length + tail.length := by omega
    simp [hi] at hj
  · have e1 : resOf ss (Array.replicate (free ++ tail).toArray.size false) (fun _ => undef) free.length = preOf ss := by
      rw [← preOf_range, hl]
      refine flatMap_same _ _ _ fun j hj => ?_
      rw [rep_false]; rfl
    have e2 : ∀ m, m ≤ free.length → ((List.range m).flatMap fun i => if (Array.replicate (free ++ tail).toArray.size false).getD i false then (match ss[i]? with | some s => s.fs undef | none => []) else []) = [] := by
      intro m _
      induction m with
      | zero => rfl
      | succ m ih =>
        rw [List.range_succ, List.flatMap_append, ih (by omega)]
        have hi : m < free.length + tail.length := by omega
        simp [hi]
    rw [e1]
    have e3 : fctOf ss (Array.replicate (free ++ tail).toArray.size false) (fun _ => undef) free.length = [] := e2 _ (Nat.le_refl _)
    rw [e3]
    exact h3.heap rfl rfl rfl rfl
  · have := unl_tail (N := (free ++ tail).length) (m := 0) (listed := Array.replicate (free ++ tail).toArray.size false) (fun i hi => by omega)
    simpa using this
theorem r_par_in' {id : Nat} {l : List Oper} (m : Nat) (hm : P.follows .mixedOrders = true) (hpb : parB (l.take m) (l.drop m) = true) (hfr : freshB L (l.take m) = true) (hnd : (l.take m).all (fun o => noDefer o.op) = true)
    (h : ParO P W n M R l.toArray (fun ss => preOf ss = [] ∧ lateX l.toArray ss = true ∧ Fin W n D (wpListIn Fence.wide 0 P l.toArray Q (l.drop m)) (l.take m) ss L M R) (l.take m) [] L) : Imp W n D L M R ((Code.region id l.toArray true).wp P Q) :=
  r_par_in (l.take m) (l.drop m) (List.take_append_drop m l).symm hm hpb (fun o ho => List.all_eq_true.1 hnd o ho) (fun o ho => by
    have := List.all_eq_true.1 hfr o ho
    simpa using this) (h.mono fun ss hs => by
      rw [hs.1]; exact ⟨SelM.refl, hs.2⟩)
end Go.G

set_option linter.unusedVariables false
set_option linter.unusedSimpArgs false
namespace Go.G
variable {P : Program} {W : World} {n : Nat} {D : List Deferred} {L : Tm} {M : List Res} {R : List Fact} {Q : Exit → Act → World → Prop} {o : Oper}
def memoH (P : Program) (k : TypeId) (ok : Value → Value → Prop) (b : Nat) (kv : Value) (has : Bool) : Res := fun s => ∃ es clock, s = [(b, .map es clock)] ∧ (∀ e ∈ es.toList, (∃ l, keyOf P k e.key = some l) ∧ ok e.key e.val) ∧ (has = true → ∃ e ∈ es.toList, e.key = kv) ∧ (has = false → ∀ e ∈ es.toList, e.key ≠ kv)
theorem St.swap {w : World} {r r' : Res} {M' : List Res} (h : St W (r :: M') R w) (hr : ∀ s, r s → r' s) : St W (r' :: M') R w := by
  obtain ⟨s, ⟨s1, s2, rfl, hz, hS⟩, hO, hR⟩ := h.mem
  exact ⟨h.os, h.tape, h.output, s1 ++ s2, ⟨s1, s2, rfl, hr _ hz, hS⟩, hO, hR⟩
theorem Imp.memo_join {k : TypeId} {ok : Value → Value → Prop} {b : Nat} {kv : Value} {has : Bool} {M' : List Res} {X : Act → World → Prop} [hM : DelC M (memoH P k ok b kv has) M'] (h : Imp W n D L (memo P k ok b :: M') R X) : Imp W n D L M R X := fun a w g1 g2 g3 =>
  h a w g1 g2 ((g3.perm hM.del.perm).swap fun s ⟨es, clock, hs, hall, _⟩ => ⟨es, clock, hs, hall⟩)
theorem memoH_at {k : TypeId} {ok : Value → Value → Prop} {b : Nat} {kv : Value} {has : Bool} {M' : List Res} {w : World} (h : St W M R w) (hd : Del M (memoH P k ok b kv has) M') : ∃ es clock, w.heap[b]? = some (.map es clock) ∧ (∀ e ∈ es.toList, (∃ l, keyOf P k e.key = some l) ∧ ok e.key e.val) ∧ (has = true → ∃ e ∈ es.toList, e.key = kv) ∧ (has = false → ∀ e ∈ es.toList, e.key ≠ kv) := by
  have h4 : St W (memoH P k ok b kv has :: M') R w := h.perm hd.perm
  obtain ⟨s, ⟨es, clock, rfl, hall⟩, hO⟩ := h4.res (Upd.of_mem (List.mem_cons_self ..))
  exact ⟨es, clock, hO.at_ (b, .map es clock) (by simp), hall⟩
theorem run_lookH {k T e : TypeId} {ok : Value → Value → Prop} {b : Nat} {kv z : Value} {has : Bool} {M' : List Res} {w : World} {l : Lit} {i : TypeInfo} {x y : Operand} {cm : Bool} (v : Value) (h : St W M R w) (hd : Del M (memoH P k ok b kv has) M') (hl : WideMaps.KeyLaw P k) (hk : keyOf P k kv = some l)
    (ho : o.op = .lookup T x y cm) (hT : P.underlying T = some (.map k e)) (hi : P.info? e = some i) (hz : i.zero = some z) (hv : has = true → ∀ u, ok kv u → u = v) {ρ : Operand → Value} (e1 : ρ x = .map (some b)) (e2 : ρ y = kv) :
    (execOp ρ o).run P w = .ok (.value (if cm then .tuple #[if has then v else z, .bool has] else if has then v else z)) w := by
  obtain ⟨es, clock, hb, hall, hy, hn⟩ := memoH_at h hd
  have hz' : (zeroValue e).run P w = .ok z w := run_zeroValue' hi hz
  rcases hl.find w hk es.toList (fun e he => (hall e he).1) with ⟨hf, hne⟩ | ⟨j, e', hf, hj, he'⟩
  · have : has = false := by
      cases has
      · rfl
      · obtain ⟨e, he, hk⟩ := hy rfl
        exact absurd hk (hne e he)
    subst this
    unfold execOp
    cases cm <;> simp [ho, e1, e2, Instr.lookup, run_underlying hT, getObj, Sem.run, hb, hl.check w _ hk, hf, hz', Sem.run_bind, Sem.run_pure, Result.andThen]
  · have hm := hall e' (List.mem_of_getElem? hj)
    rw [he'] at hm
    have : has = true := by
      cases has
      · exact absurd he' (hn rfl e' (List.mem_of_getElem? hj))
      · rfl
    subst this
    have hev := hv rfl _ hm.2
    unfold execOp
    cases cm <;> simp [ho, e1, e2, Instr.lookup, run_underlying hT, getObj, Sem.run, hb, hl.check w _ hk, hf, hev, Sem.run_bind, Sem.run_pure, Result.andThen]
theorem v_lookH {k T e : TypeId} (ok : Value → Value → Prop) {b : Nat} {kv z : Value} (has : Bool) {M' : List Res} {l : Lit} {i : TypeInfo} {x y : Operand} {cm : Bool} (v : Value) [hM : DelC M (memoH P k ok b kv has) M'] (hl : WideMaps.KeyLaw P k) (hk : keyOf P k kv = some l)
    (ho : o.op = .lookup T x y cm) (hT : P.underlying T = some (.map k e)) (hi : P.info? e = some i) (hz : i.zero = some z) (hv : has = true → ∀ u, ok kv u → u = v) (hx : ev L x = some (.map (some b))) (hy : ev L y = some kv) :
    OpQ P W n L M R o (if cm then .tuple #[if has then v else z, .bool has] else if has then v else z) :=
  OpQ.of_value fun a w g1 g3 => run_lookH v g3 hM.del hl hk ho hT hi hz hv (g1.ev hx) (g1.ev hy)
theorem o_mapUpdH {ops : Array Oper} {rest : List Oper} {T k e : TypeId} {x y v : Operand} {b : Nat} {kv kv0 u : Value} {l : Lit} {ok : Value → Value → Prop} {has : Bool} {M' : List Res} [hM : DelC M (memoH P k ok b kv0 has) M'] (hl : WideMaps.KeyLaw P k) (hk : keyOf P k kv = some l)
    (ho : o.op = .mapUpdate T x y v) (hT : P.underlying T = some (.map k e)) (hg : o.guard = none) (hdst : o.dst = none)
    (hx : ev L x = some (.map (some b))) (hy : ev L y = some kv) (hv : ev L v = some u) (hok : ok kv u)
    (h : Imp W n D L (memoH P k ok b kv true :: M') R (wpList P ops Q rest)) : Imp W n D L M R (wpList P ops Q (o :: rest)) := by
  intro a w h1 h2 h3
  refine wpList_plain hg fun K hK => ?_
  unfold Oper.wp
  obtain ⟨es, clock, hb, hall, _, _⟩ := memoH_at h3 hM.del
  have hlt : b < w.heap.size := (Array.getElem?_eq_some_iff.1 hb).1
  have key : ∀ ρ : Operand → Value, ρ x = .map (some b) → ρ y = kv → ρ v = u → ∃ es' clock', (execOp ρ o).run P w = .ok .skip (w.putObj b (.map es' clock')) ∧ (∀ e ∈ es'.toList, (∃ l, keyOf P k e.key = some l) ∧ ok e.key e.val) ∧ ∃ e ∈ es'.toList, e.key = kv := by
    intro ρ e1 e2 e3
    rcases hl.find w hk es.toList (fun e he => (hall e he).1) with ⟨hf, _⟩ | ⟨j, e', hf, hj, he'⟩
    · refine ⟨es.push { key := kv, val := u, born := clock }, clock + 1, ?_, ?_, ⟨{ key := kv, val := u, born := clock }, by simp, rfl⟩⟩
      · unfold execOp
        simp [ho, e1, e2, e3, Instr.mapUpdate, run_underlying hT, getObj, setObj, Sem.run, hb, hl.check w _ hk, hf, Sem.run_bind, Sem.run_pure, Result.andThen, World.putObj]
      · intro e he
        rcases List.mem_append.1 (by simpa using he : e ∈ es.toList ++ [{ key := kv, val := u, born := clock }]) with he | he
        · exact hall e he
        · have : e = { key := kv, val := u, born := clock } := by simpa using he
          subst this
          exact ⟨⟨l, hk⟩, hok⟩
    · have hst := hl.stays w hk
      have hj' : es[j]? = some e' := by simpa using hj
      have hmj : (es.modify j fun e => { e with key := kv, val := u })[j]? = some { e' with key := kv, val := u } := by rw [Array.getElem?_modify, if_pos rfl, hj']; rfl
      refine ⟨es.modify j fun e => { e with key := kv, val := u }, clock, ?_, ?_, ⟨{ e' with key := kv, val := u }, List.mem_of_getElem? (by rw [Array.getElem?_toList]; exact hmj), rfl⟩⟩
      · unfold execOp
        simp [ho, e1, e2, e3, Instr.mapUpdate, run_underlying hT, getObj, setObj, Sem.run, hb, hl.check w _ hk, hf, hj', he', hst, Sem.run_bind, Sem.run_pure, Result.andThen, World.putObj]
      · intro e he
        obtain ⟨m, hm⟩ := List.mem_iff_getElem?.1 he
        have hm' : (es.modify j fun e => { e with key := kv, val := u })[m]? = some e := by rw [← Array.getElem?_toList]; exact hm
        by_cases hjm : j = m
        · subst hjm
          rw [Array.getElem?_modify, if_pos rfl, hj'] at hm'
          have : e = { e' with key := kv, val := u } := by simpa using hm'.symm
          subst this
          exact ⟨⟨l, hk⟩, hok⟩
        · rw [Array.getElem?_modify, if_neg hjm] at hm'
          exact hall e (List.mem_of_getElem? (by simpa using hm'))
  obtain ⟨es', clock', hr, hall', hin⟩ := key _ (h1.ev hx) (h1.ev hy) (h1.ev hv)
  rw [hr, Oper.upon_skip, hdst]
  have h4 := h3.perm hM.del.perm
  refine hK _ _ (h a _ h1 h2 ?_)
  refine h4.replace Upd.here rfl rfl rfl ?_
  rintro s ⟨es1, clock1, rfl, _⟩ hO
  refine ⟨[(b, .map es' clock')], ⟨es', clock', rfl, hall', fun _ => hin, fun h => (by cases h)⟩, ⟨by simp [keys], ?_⟩, ?_, ?_⟩
  · intro p hp
    have : p = (b, .map es' clock') := by simpa using hp
    subst this
    exact World.putObj_heap_same hlt
  · intro c hc; exact .inl (by simpa [keys] using hc)
  · intro c _ hc
    exact World.putObj_heap_other (by intro e; subst e; exact hc (by simp [keys]))
theorem oi_yieldsG {α : Type} {ops : Array Oper} {rest : List Oper} {x : Operand} {xs : List Operand} {ts : Array TypeId} {l d i j : Nat} {b : Bool} {vs : List Value} {enc : α → List Value} {ys : List α} {J Jx : Nat → Res} {Ri Rf : List Fact} {M' : List Res} {y : α}
    (hY : Yields P W l enc ys J Jx Rf) (hy : ys[i]? = some y)
    (ho : o.op = .call { callee := .value x, args := xs.toArray, argTypes := ts }) (hx : ev L x = some (.func (.yield l) #[] #[])) (hxs : evs L xs = some vs) (hv : vs = enc y) (hg : o.guard = some (j, b)) (hs : said ops L j = some b) (hdst : o.dst = some d) (hd : Nat.blt d n = true) [hM : DelC M (J i) M']
    (h1 : Imp W n D ((d, .bool true) :: L) (J (i + 1) :: M') (Ri ++ Rf) (wpListIn Fence.wide 0 P ops Q rest)) (h2 : Imp W n D ((d, .bool false) :: L) (Jx (i + 1) :: M') (Ri ++ Rf) (wpListIn Fence.wide 0 P ops Q rest)) : Imp W n D L M (Ri ++ Rf) (wpListIn Fence.wide 0 P ops Q (o :: rest)) := by
  subst hv
  intro a w g1 g2 g3
  unfold wpListIn
  have hw : Region.wanted o (yielded ops a.tmps) = true := by simp [Region.wanted, hg, said_sound g1 hs]
  rw [if_pos hw]
  refine ⟨fun _ _ => trivial, ?_⟩
  rw [Oper.semAt_eq _ _ _ (fun c e => by rw [e] at ho; cases ho)]
  obtain ⟨fn, tmps, assign, body, hyy, hr⟩ := hY i y hy M' Ri w (g3.perm hM.del.perm)
  have hrun : (execOp a.eval o).run P w = .ok (.round l fn tmps assign body) w := by
    unfold execOp
    simp only [ho, resolve, g1.ev hx, Deferred.ofValue, Sem.run_bind, Sem.run_pure, Result.andThen_ok, invoke, List.map_toArray, g1.evs hxs]
    simpa using hyy
  rw [hrun]
  refine ⟨fun h => (by cases h), hr.mono ?_⟩
  rintro e w' (⟨rfl, h⟩ | ⟨rfl, h⟩)
  · rw [hdst]
    exact h1 _ w' (g1.put (by simpa using hd) _) (by rw [put_defers]; exact g2) h
  · rw [hdst]
    exact h2 _ w' (g1.put (by simpa using hd) _) (by rw [put_defers]; exact g2) h
end Go.G

set_option linter.unusedVariables false
namespace Burst8
open Go Go.G
abbrev Tab := List Int
def tat (T : Tab) (i k : Nat) : Int := T.getD (11 * i + k) 0
def tset (T : Tab) (i k : Nat) (x : Int) : Tab := T.set (11 * i + k) x
theorem tset_len (T : Tab) (i k : Nat) (x : Int) : (tset T i k x).length = T.length := by simp [tset]
theorem tat_set {T : Tab} (hT : T.length = 121) {i k r c : Nat} {x : Int} (hi : i < 11) (hk : k < 11) (hr : r < 11) (hc : c < 11) : tat (tset T i k x) r c = if r = i ∧ c = k then x else tat T r c := by
  unfold tat tset
  simp only [List.getD_eq_getElem?_getD]
  by_cases e : r = i ∧ c = k
  · rw [if_pos e, e.1, e.2, List.getElem?_set_self (by omega)]; rfl
  · rw [if_neg e, List.getElem?_set_ne (by omega)]
def fwC (T : Tab) (b i : Nat) : Nat → Tab
  | 0 => T
  | k + 1 => tset (fwC T b i k) i k (min (tat (fwC T b i k) i k) (tat (fwC T b i k) i b + tat (fwC T b i k) b k))
def fwR (T : Tab) (b : Nat) : Nat → Tab
  | 0 => T
  | i + 1 => fwC (fwR T b i) b i 11
def fw (T : Tab) : Nat → Tab
  | 0 => T
  | b + 1 => fwR (fw T b) b 11
theorem fwC_len (T : Tab) (b i : Nat) : ∀ k, (fwC T b i k).length = T.length
  | 0 => rfl
  | k + 1 => by rw [fwC, tset_len, fwC_len]
theorem fwR_len (T : Tab) (b : Nat) : ∀ i, (fwR T b i).length = T.length
  | 0 => rfl
  | i + 1 => by rw [fwR, fwC_len, fwR_len]
theorem fw_len (T : Tab) : ∀ b, (fw T b).length = T.length
  | 0 => rfl
  | b + 1 => by rw [fw, fwR_len, fw_len]
def Sat (T : Tab) (x : Nat → Int) : Prop := ∀ i, i < 11 → ∀ k, k < 11 → x i - x k ≤ tat T i k
def TLe (T U : Tab) : Prop := ∀ i, i < 11 → ∀ k, k < 11 → tat T i k ≤ tat U i k
theorem TLe.refl (T : Tab) : TLe T T := fun _ _ _ _ => Int.le_refl _
theorem TLe.trans {T U V : Tab} (h : TLe T U) (k : TLe U V) : TLe T V := fun i hi j hj => Int.le_trans (h i hi j hj) (k i hi j hj)
section
variable {T : Tab} {b : Nat}
theorem fwC_spec (hT : T.length = 121) (hb : b < 11) {i : Nat} (hi : i < 11) : ∀ k, k ≤ 11 → TLe (fwC T b i k) T ∧ (∀ x, Sat T x → Sat (fwC T b i k) x) ∧ (∀ r, r < 11 → r ≠ i → ∀ c, c < 11 → tat (fwC T b i k) r c = tat T r c) ∧ (∀ c, k ≤ c → c < 11 → tat (fwC T b i k) i c = tat T i c)
  | 0, _ => ⟨TLe.refl _, fun _ h => h, fun _ _ _ _ _ => rfl, fun _ _ _ => rfl⟩
  | k + 1, hk => by
    obtain ⟨h1, h2, h3, h4⟩ := fwC_spec hT hb hi k (by omega)
    have hl := fwC_len T b i k
    have hset := fun r c (hr : r < 11) (hc : c < 11) => tat_set (T := fwC T b i k) (by rw [hl, hT]) (x := min (tat (fwC T b i k) i k) (tat (fwC T b i k) i b + tat (fwC T b i k) b k)) hi (show k < 11 by omega) hr hc
    refine ⟨fun r hr c hc => ?_, fun x hx r hr c hc => ?_, fun r hr hne c hc => ?_, fun c hkc hc => ?_⟩
    · show tat (tset _ _ _ _) r c ≤ _
      rw [hset r c hr hc]
      split
      · rename_i e
        obtain ⟨rfl, rfl⟩ := e
        have := h1 r hr c hc
        omega
      · exact h1 r hr c hc
    · show _ ≤ tat (tset _ _ _ _) r c
      have hx' := h2 x hx
      rw [hset r c hr hc]
      split
      · rename_i e
        obtain ⟨rfl, rfl⟩ := e
        have a1 := hx' r hr c hc
        have a2 := hx' r hr b hb
        have a3 := hx' b hb c hc
        omega
      · exact hx' r hr c hc
    · show tat (tset _ _ _ _) r c = _
      rw [hset r c hr hc, if_neg (by omega)]
      exact h3 r hr hne c hc
    · show tat (tset _ _ _ _) i c = _
      rw [hset i c hi hc, if_neg (by omega)]
      exact h4 c (by omega) hc
theorem fwR_spec (hT : T.length = 121) (hb : b < 11) : ∀ i, i ≤ 11 → TLe (fwR T b i) T ∧ (∀ x, Sat T x → Sat (fwR T b i) x) ∧ (∀ r, i ≤ r → r < 11 → ∀ c, c < 11 → tat (fwR T b i) r c = tat T r c)
  | 0, _ => ⟨TLe.refl _, fun _ h => h, fun _ _ _ _ _ => rfl⟩
  | i + 1, hi => by
    obtain ⟨h1, h2, h3⟩ := fwR_spec hT hb i (by omega)
    obtain ⟨g1, g2, g3, _⟩ := fwC_spec (T := fwR T b i) (by rw [fwR_len, hT]) hb (show i < 11 by omega) 11 (Nat.le_refl _)
    exact ⟨g1.trans h1, fun x hx => g2 x (h2 x hx), fun r hr hr' c hc => by
      show tat (fwC _ _ _ _) r c = _
      rw [g3 r hr' (by omega) c hc]; exact h3 r (by omega) hr' c hc⟩
end
theorem fw_spec {T : Tab} (hT : T.length = 121) : ∀ b, b ≤ 11 → TLe (fw T b) T ∧ ∀ x, Sat T x → Sat (fw T b) x
  | 0, _ => ⟨TLe.refl _, fun _ h => h⟩
  | b + 1, hb => by
    obtain ⟨h1, h2⟩ := fw_spec hT b (by omega)
    obtain ⟨g1, g2, _⟩ := fwR_spec (T := fw T b) (by rw [fw_len, hT]) (show b < 11 by omega) 11 (Nat.le_refl _)
    exact ⟨g1.trans h1, fun x hx => g2 x (h2 x hx)⟩
section
variable {T : Tab} {b : Nat}
theorem fwC_val (hT : T.length = 121) (hb : b < 11) {i : Nat} (hi : i < 11) (h0 : 0 ≤ tat T b b) (hi2 : i ≠ b) : ∀ k, k ≤ 11 → ∀ c, c < 11 → tat (fwC T b i k) i c = if c < k then min (tat T i c) (tat T i b + tat T b c) else tat T i c
  | 0, _, c, _ => by simp [fwC]
  | k + 1, hk, c, hc => by
    have ih := fwC_val hT hb hi h0 hi2 k (by omega)
    obtain ⟨_, _, g3, _⟩ := fwC_spec hT hb hi k (by omega)
    have hl := fwC_len T b i k
    show tat (tset _ _ _ _) i c = _
    rw [tat_set (by rw [hl, hT]) hi (by omega) hi hc]
    have e1 := ih k (by omega)
    have e2 := ih b hb
    have e3 := g3 b hb (Ne.symm hi2) k (by omega)
    rw [if_neg (by omega)] at e1
    have e4 : tat (fwC T b i k) i b = tat T i b := by
      rw [e2]; split
      · omega
      · rfl
    rw [e1, e4, e3, ih c hc]
    by_cases e : c = k
    · subst e; rw [if_pos ⟨rfl, rfl⟩, if_pos (by omega)]
    · rw [if_neg (by omega)]
      by_cases h : c < k
      · rw [if_pos h, if_pos (by omega)]
      · rw [if_neg h, if_neg (by omega)]
theorem fwC_self (hT : T.length = 121) (hb : b < 11) (h0 : 0 ≤ tat T b b) : ∀ k, k ≤ 11 → ∀ c, c < 11 → tat (fwC T b b k) b c = tat T b c
  | 0, _, c, _ => rfl
  | k + 1, hk, c, hc => by
    have ih := fwC_self hT hb h0 k (by omega)
    have hl := fwC_len T b b k
    show tat (tset _ _ _ _) b c = _
    rw [tat_set (by rw [hl, hT]) hb (by omega) hb hc, ih k (by omega), ih b hb]
    split
    · rename_i e; rw [e.2]; omega
    · exact ih c hc
theorem fwR_val (hT : T.length = 121) (hb : b < 11) (h0 : 0 ≤ tat T b b) : ∀ i, i ≤ 11 → ∀ r, r < 11 → ∀ c, c < 11 → tat (fwR T b i) r c = if r < i then min (tat T r c) (tat T r b + tat T b c) else tat T r c
  | 0, _, r, _, c, _ => by simp [fwR]
  | i + 1, hi, r, hr, c, hc => by
    have ih := fwR_val hT hb h0 i (by omega)
    have hl : (fwR T b i).length = 121 := by rw [fwR_len, hT]
    obtain ⟨_, _, g3, _⟩ := fwC_spec (T := fwR T b i) hl hb (show i < 11 by omega) 11 (Nat.le_refl _)
    have hrow : ∀ c, c < 11 → tat (fwR T b i) b c = tat T b c := fun c hc => by
      rw [ih b hb c hc]; split <;> omega
    have h0' : 0 ≤ tat (fwR T b i) b b := by rw [hrow b hb]; exact h0
    show tat (fwC _ _ _ _) r c = _
    by_cases e : r = i
    · subst e
      rw [if_pos (by omega)]
      have hfr : ∀ c, c < 11 → tat (fwR T b r) r c = tat T r c := fun c hc => by rw [ih r hr c hc, if_neg (by omega)]
      by_cases hb2 : r = b
      · subst hb2
        rw [fwC_self hl hb h0' 11 (Nat.le_refl _) c hc, hrow c hc]; omega
      · rw [fwC_val hl hb (by omega) h0' hb2 11 (Nat.le_refl _) c hc, if_pos hc, hfr c hc, hfr b hb, hrow c hc]
    · rw [g3 r hr e c hc, ih r hr c hc]
      by_cases h : r < i
      · rw [if_pos h, if_pos (by omega)]
      · rw [if_neg h, if_neg (by omega)]
end
def Can (T : Tab) : Prop := ∀ i, i < 11 → 0 ≤ tat (fw T 11) i i
instance (T : Tab) : Decidable (Can T) := by unfold Can; infer_instance
theorem fw_down {T : Tab} (hT : T.length = 121) {b : Nat} : ∀ m, b + m ≤ 11 → TLe (fw T (b + m)) (fw T b)
  | 0, _ => TLe.refl _
  | m + 1, h => by
    have ih := fw_down hT (b := b) m (by omega)
    obtain ⟨g1, _, _⟩ := fwR_spec (T := fw T (b + m)) (by rw [fw_len, hT]) (show b + m < 11 by omega) 11 (Nat.le_refl _)
    exact g1.trans ih
theorem fw_diag {T : Tab} (hT : T.length = 121) (hc : Can T) {b : Nat} (hb : b ≤ 11) {i : Nat} (hi : i < 11) : 0 ≤ tat (fw T b) i i := by
  have := fw_down hT (b := b) (11 - b) (by omega) i hi i hi
  rw [show b + (11 - b) = 11 from by omega] at this
  exact Int.le_trans (hc i hi) this
theorem fw_tri {T : Tab} (hT : T.length = 121) (hc : Can T) : ∀ b, b ≤ 11 → ∀ m, m < b → ∀ i, i < 11 → ∀ k, k < 11 → tat (fw T b) i k ≤ tat (fw T b) i m + tat (fw T b) m k
  | 0, _, m, hm, _, _, _, _ => by omega
  | b + 1, hb, m, hm, i, hi, k, hk => by
    have ih := fw_tri hT hc b (by omega)
    have h0 := fw_diag hT hc (b := b) (by omega) (show b < 11 by omega)
    have hv := fun r (hr : r < 11) c (hc : c < 11) => fwR_val (T := fw T b) (by rw [fw_len, hT]) (show b < 11 by omega) h0 11 (Nat.le_refl _) r hr c hc
    have hv' : ∀ r, r < 11 → ∀ c, c < 11 → tat (fw T (b + 1)) r c = min (tat (fw T b) r c) (tat (fw T b) r b + tat (fw T b) b c) := fun r hr c hc => by
      have := hv r hr c hc
      rw [if_pos hr] at this
      exact this
    rw [hv' i hi k hk, hv' i hi m (by omega), hv' m (by omega) k hk]
    by_cases e : m = b
    · subst e; omega
    · have a1 := ih m (by omega) i hi k hk
      have a2 := ih m (by omega) b (by omega) k hk
      have a3 := ih m (by omega) i hi b (by omega)
      have a4 := ih m (by omega) b (by omega) b (by omega)
      omega
theorem tri {T : Tab} (hT : T.length = 121) (hc : Can T) {i k m : Nat} (hi : i < 11) (hk : k < 11) (hm : m < 11) : tat (fw T 11) i k ≤ tat (fw T 11) i m + tat (fw T 11) m k := fw_tri hT hc 11 (Nat.le_refl _) m hm i hi k hk
theorem sat_hi {T : Tab} (hT : T.length = 121) (hc : Can T) {c : Nat} (h : c < 11) : Sat T (fun i => tat (fw T 11) i c) := fun i hi k hk => by
  have h1 := tri hT hc hi h hk
  have h2 := (fw_spec hT 11 (Nat.le_refl _)).1 i hi k hk
  show tat (fw T 11) i c - tat (fw T 11) k c ≤ _
  omega
theorem can_iff {T : Tab} (hT : T.length = 121) : Can T ↔ ∃ x, Sat T x := by
  constructor
  · intro hc; exact ⟨_, sat_hi hT hc (c := 0) (by omega)⟩
  · rintro ⟨x, hx⟩ i hi
    have := (fw_spec hT 11 (Nat.le_refl _)).2 x hx i hi i hi
    omega
theorem span_in {T : Tab} (hT : T.length = 121) {x : Nat → Int} (hx : Sat T x) {i k : Nat} (hi : i < 11) (hk : k < 11) : - tat (fw T 11) k i ≤ x i - x k ∧ x i - x k ≤ tat (fw T 11) i k := by
  have h := (fw_spec hT 11 (Nat.le_refl _)).2 x hx
  have h1 := h i hi k hk
  have h2 := h k hk i hi
  omega
end Burst8

set_option linter.unusedVariables false
namespace Burst8
open Go Go.G
structure Span where
  lo : Int
  hi : Int
  deriving DecidableEq, Inhabited
structure Bank where
  blo : Int
  bhi : Int
  clo : Int
  chi : Int
  deriving DecidableEq, Inhabited
structure Sign where
  kind : Int
  bank : Int
  day : Int
  deriving DecidableEq, Inhabited
structure Bog where
  banks : List Bank
  wlo : Int
  whi : Int
  rain : List Span
  drain : Int
  signs : List Sign
  deriving DecidableEq, Inhabited
abbrev i64 (n : Int) : Value := .int .i64 n
abbrev u64 (n : Nat) : Value := .int .u64 n
def encS (s : Span) : List Value := [i64 s.lo, i64 s.hi]
def encB (b : Bank) : List Value := [i64 b.blo, i64 b.bhi, i64 b.clo, i64 b.chi]
def encG (s : Sign) : List Value := [i64 s.kind, i64 s.bank, i64 s.day]
@[reducible] def cellsB (B : Bog) (bo ro so : Option Addr) (bc rc sc : Nat) : List Value :=
  [.slice bo B.banks.length bc, i64 B.wlo, i64 B.whi, .slice ro B.rain.length rc, i64 B.drain, .slice so B.signs.length sc]
@[reducible] def valB (B : Bog) (bo ro so : Option Addr) (bc rc sc : Nat) : Value := .agg (cellsB B bo ro so bc rc sc).toArray
def SignOk (B : Bog) (s : Sign) : Prop := (0 ≤ s.day ∧ s.day ≤ (B.rain.length : Int)) ∧ (s.kind = 2 ∨ ((0 ≤ s.kind ∧ s.kind ≤ 1) ∧ (0 ≤ s.bank ∧ s.bank ≤ (B.banks.length : Int) - 1)))
instance (B : Bog) (s : Sign) : Decidable (SignOk B s) := by unfold SignOk; infer_instance
def BankOk (b : Bank) : Prop := (0 ≤ b.blo ∧ b.blo ≤ b.bhi ∧ b.bhi ≤ 60) ∧ (0 ≤ b.clo ∧ b.clo ≤ b.chi ∧ b.chi ≤ 20)
instance (b : Bank) : Decidable (BankOk b) := by unfold BankOk; infer_instance
def RainOk (s : Span) : Prop := 0 ≤ s.lo ∧ s.lo ≤ s.hi ∧ s.hi ≤ 20
instance (s : Span) : Decidable (RainOk s) := by unfold RainOk; infer_instance
structure GoodB (B : Bog) : Prop where
  nb : 1 ≤ (B.banks.length : Int) ∧ (B.banks.length : Int) ≤ 4
  w : -40 ≤ B.wlo ∧ B.wlo ≤ B.whi ∧ B.whi ≤ 40
  nr : 1 ≤ (B.rain.length : Int) ∧ (B.rain.length : Int) ≤ 5
  dr : 0 ≤ B.drain ∧ B.drain ≤ 20
  ns : (B.signs.length : Int) ≤ 5
  banks : ∀ k, k < B.banks.length → BankOk (B.banks.getD k default)
  rain : ∀ k, k < B.rain.length → RainOk (B.rain.getD k default)
  signs : ∀ k, k < B.signs.length → SignOk B (B.signs.getD k default)
theorem goodB_iff (B : Bog) : GoodB B ↔ (1 ≤ (B.banks.length : Int) ∧ (B.banks.length : Int) ≤ 4) ∧ (-40 ≤ B.wlo ∧ B.wlo ≤ B.whi ∧ B.whi ≤ 40) ∧ (1 ≤ (B.rain.length : Int) ∧ (B.rain.length : Int) ≤ 5) ∧ (0 ≤ B.drain ∧ B.drain ≤ 20) ∧ (B.signs.length : Int) ≤ 5 ∧ (∀ k, k < B.banks.length → BankOk (B.banks.getD k default)) ∧ (∀ k, k < B.rain.length → RainOk (B.rain.getD k default)) ∧ (∀ k, k < B.signs.length → SignOk B (B.signs.getD k default)) :=
  ⟨fun h => ⟨h.nb, h.w, h.nr, h.dr, h.ns, h.banks, h.rain, h.signs⟩, fun ⟨a, b, c, d, e, f, g, h⟩ => ⟨a, b, c, d, e, f, g, h⟩⟩
instance (B : Bog) : Decidable (GoodB B) := decidable_of_iff _ (goodB_iff B).symm
structure Bnd where
  a : Nat
  b : Nat
  lo : Int
  hi : Int
  deriving DecidableEq, Inhabited
def encN (x : Bnd) : List Value := [i64 x.a, i64 x.b, i64 x.lo, i64 x.hi]
def bW (B : Bog) : Bnd := ⟨5, 0, B.wlo, B.whi⟩
def bB (B : Bog) (i : Nat) : Bnd := ⟨1 + i, 0, (B.banks.getD i default).blo - (B.banks.getD i default).chi, (B.banks.getD i default).bhi - (B.banks.getD i default).clo⟩
def bR (B : Bog) (d : Nat) : Bnd := ⟨5 + d + 1, 5 + d, (B.rain.getD d default).lo - B.drain, (B.rain.getD d default).hi - B.drain⟩
def signB (s : Sign) : Bnd := if s.kind = 0 then ⟨1 + s.bank.toNat, 5 + s.day.toNat, 0, 10⟩ else if s.kind = 1 then ⟨1 + s.bank.toNat, 5 + s.day.toNat, 0, 5⟩ else ⟨5 + s.day.toNat, 0, 15, 65536⟩
def bV (i d : Nat) : Bnd := ⟨1 + i, 5 + d, 0, 65536⟩
def sgTo (B : Bog) (m : Nat) : Nat → List Bnd
  | 0 => []
  | k + 1 => sgTo B m k ++ if m.testBit k then [signB (B.signs.getD k default)] else []
def vwTo (s : Int) (w : Bool) (i : Nat) : Nat → List Bnd
  | 0 => []
  | d + 1 => vwTo s w i d ++ if w = true ∧ (d : Int) ≤ s then [bV i d] else []
def vsTo (n : Nat) (s : Int) (w : Bool) : Nat → List Bnd
  | 0 => []
  | i + 1 => vsTo n s w i ++ vwTo s w i (n + 1)
def bsTo (B : Bog) (i : Nat) : List Bnd := bW B :: (List.range i).map (bB B)
def rsTo (B : Bog) (d : Nat) : List Bnd := bsTo B B.banks.length ++ (List.range d).map (bR B)
def ssTo (B : Bog) (m k : Nat) : List Bnd := rsTo B B.rain.length ++ sgTo B m k
def wsTo (B : Bog) (m : Nat) (s : Int) (w : Bool) (i : Nat) : List Bnd := ssTo B m B.signs.length ++ vsTo B.rain.length s w i
def boundsL (B : Bog) (m : Nat) (s : Int) (w : Bool) : List Bnd := wsTo B m s w B.banks.length
def far : Int := 65536
def emptyT : Tab := (List.range 121).map fun j => if j / 11 = j % 11 then 0 else 65536
def InT (x : Bnd) : Prop := x.a < 11 ∧ x.b < 11 ∧ (-65536 ≤ x.lo ∧ x.lo ≤ 65536) ∧ (-65536 ≤ x.hi ∧ x.hi ≤ 65536)
def putA (T : Tab) (x : Bnd) : Tab := tset T x.a x.b (min (tat T x.a x.b) x.hi)
def put1 (T : Tab) (x : Bnd) : Tab := tset (putA T x) x.b x.a (min (tat (putA T x) x.b x.a) (0 - x.lo))
def tabOf (l : List Bnd) : Tab := l.foldl put1 emptyT
theorem putA_len (T : Tab) (x : Bnd) : (putA T x).length = T.length := tset_len ..
theorem put1_len (T : Tab) (x : Bnd) : (put1 T x).length = T.length := by unfold put1; rw [tset_len, putA_len]
theorem foldl_len (l : List Bnd) : ∀ T : Tab, (l.foldl put1 T).length = T.length := by
  induction l with
  | nil => intro T; rfl
  | cons x l ih => intro T; rw [List.foldl_cons, ih, put1_len]
theorem emptyT_len : emptyT.length = 121 := by simp [emptyT]
theorem tabOf_len (l : List Bnd) : (tabOf l).length = 121 := by unfold tabOf; rw [foldl_len, emptyT_len]
theorem tabOf_snoc (l : List Bnd) (x : Bnd) : tabOf (l ++ [x]) = put1 (tabOf l) x := by simp [tabOf]
def TIn (T : Tab) (a : Int) : Prop := ∀ i, i < 11 → ∀ k, k < 11 → - a ≤ tat T i k ∧ tat T i k ≤ 65536
theorem tat_empty {i k : Nat} (hi : i < 11) (hk : k < 11) : tat emptyT i k = if i = k then 0 else 65536 := by
  unfold tat emptyT
  rw [List.getD_eq_getElem?_getD, List.getElem?_map, List.getElem?_range (by omega)]
  have e1 : (11 * i + k) / 11 = i := by omega
  have e2 : (11 * i + k) % 11 = k := by omega
  simp only [Option.map_some, Option.getD_some, e1, e2]
theorem TIn_empty : TIn emptyT 65536 := fun i hi k hk => by rw [tat_empty hi hk]; split <;> omega
theorem TIn.putA {T : Tab} {x : Bnd} (hT : T.length = 121) (h : TIn T 65536) (hx : InT x) : TIn (putA T x) 65536 := fun i hi k hk => by
  unfold Burst8.putA
  rw [tat_set hT hx.1 hx.2.1 hi hk]
  have h1 := h i hi k hk
  have h2 := h x.a hx.1 x.b hx.2.1
  have h3 := hx.2.2.2
  split <;> omega
theorem TIn.put1 {T : Tab} {x : Bnd} (hT : T.length = 121) (h : TIn T 65536) (hx : InT x) : TIn (put1 T x) 65536 := fun i hi k hk => by
  have h4 := h.putA hT hx
  unfold Burst8.put1
  rw [tat_set (by rw [putA_len, hT]) hx.2.1 hx.1 hi hk]
  have h1 := h4 i hi k hk
  have h2 := h4 x.b hx.2.1 x.a hx.1
  have h3 := hx.2.2.1
  split <;> omega
theorem TIn.foldl (l : List Bnd) : ∀ T : Tab, T.length = 121 → TIn T 65536 → (∀ x ∈ l, InT x) → TIn (l.foldl Burst8.put1 T) 65536 := by
  induction l with
  | nil => intro T _ h _; exact h
  | cons x l ih => intro T hT h hx; exact ih _ (by rw [put1_len, hT]) (h.put1 hT (hx x (by simp))) (fun y hy => hx y (by simp [hy]))
theorem tabOf_in {l : List Bnd} (h : ∀ x ∈ l, InT x) : TIn (tabOf l) 65536 := TIn.foldl l _ emptyT_len TIn_empty h
section
variable {T : Tab} {b : Nat} {B : Int}
theorem fwC_low (hT : T.length = 121) (hb : b < 11) (hB : 0 ≤ B) {i : Nat} (hi : i < 11) (hib : i ≠ b) (h6 : TIn T (6 * B)) (h0 : ∀ c, c < 11 → - B ≤ tat T i c) (h1 : ∀ c, c < 11 → -(3 * B) ≤ tat T b c) (h2 : -(2 * B) ≤ tat T b b) : ∀ k, k ≤ 11 →
    TIn (fwC T b i k) (6 * B) ∧ -(3 * B) ≤ tat (fwC T b i k) i b
  | 0, _ => ⟨h6, by have := h0 b hb; show _ ≤ tat T i b; omega⟩
  | k + 1, hk => by
    obtain ⟨g1, g2⟩ := fwC_low hT hb hB hi hib h6 h0 h1 h2 k (by omega)
    obtain ⟨f1, _, f3, f4⟩ := fwC_spec hT hb hi k (by omega)
    have hset := fun r c (hr : r < 11) (hc : c < 11) => tat_set (T := fwC T b i k) (by rw [fwC_len, hT]) (x := min (tat (fwC T b i k) i k) (tat (fwC T b i k) i b + tat (fwC T b i k) b k)) hi (show k < 11 by omega) hr hc
    have e1 := f3 b hb (Ne.symm hib) k (by omega)
    have e2 := f4 k (Nat.le_refl _) (by omega)
    have e3 := h0 k (by omega)
    have e4 := h1 k (by omega)
    have hg := g1 i hi k (by omega)
    refine ⟨fun r hr c hc => ?_, ?_⟩
    · show _ ≤ tat (tset _ _ _ _) r c ∧ tat (tset _ _ _ _) r c ≤ _
      rw [hset r c hr hc]
      split
      · omega
      · exact g1 r hr c hc
    · show _ ≤ tat (tset _ _ _ _) i b
      rw [hset i b hi hb]
      split
      · rename_i e
        obtain ⟨_, rfl⟩ := e
        omega
      · exact g2
theorem fwC_lowb (hT : T.length = 121) (hb : b < 11) (hB : 0 ≤ B) (h6 : TIn T (6 * B)) (h0 : ∀ c, c < 11 → - B ≤ tat T b c) : ∀ k, k ≤ 11 →
    TIn (fwC T b b k) (6 * B) ∧ -(2 * B) ≤ tat (fwC T b b k) b b ∧ ∀ c, c < 11 → -(3 * B) ≤ tat (fwC T b b k) b c
  | 0, _ => ⟨h6, by have := h0 b hb; show _ ≤ tat T b b; omega, fun c hc => by have := h0 c hc; show _ ≤ tat T b c; omega⟩
  | k + 1, hk => by
    obtain ⟨g1, g2, g3⟩ := fwC_lowb hT hb hB h6 h0 k (by omega)
    obtain ⟨f1, _, f3, f4⟩ := fwC_spec hT hb hb k (by omega)
    have hset := fun r c (hr : r < 11) (hc : c < 11) => tat_set (T := fwC T b b k) (by rw [fwC_len, hT]) (x := min (tat (fwC T b b k) b k) (tat (fwC T b b k) b b + tat (fwC T b b k) b k)) hb (show k < 11 by omega) hr hc
    have e2 := f4 k (Nat.le_refl _) (by omega)
    have e3 := h0 k (by omega)
    have hg := g1 b hb k (by omega)
    refine ⟨fun r hr c hc => ?_, ?_, fun c hc => ?_⟩
    · show _ ≤ tat (tset _ _ _ _) r c ∧ tat (tset _ _ _ _) r c ≤ _
      rw [hset r c hr hc]
      split
      · omega
      · exact g1 r hr c hc
    · show _ ≤ tat (tset _ _ _ _) b b
      rw [hset b b hb hb]
      split
      · rename_i e
        obtain ⟨_, rfl⟩ := e
        omega
      · exact g2
    · show _ ≤ tat (tset _ _ _ _) b c
      rw [hset b c hb hc]
      split
      · omega
      · exact g3 c hc
theorem fwR_low (hT : T.length = 121) (hb : b < 11) (hB : 0 ≤ B) (h : TIn T B) : ∀ i, i ≤ 11 → TIn (fwR T b i) (6 * B) ∧ -(2 * B) ≤ tat (fwR T b i) b b ∧ ∀ c, c < 11 → -(3 * B) ≤ tat (fwR T b i) b c
  | 0, _ => ⟨fun r hr c hc => by have := h r hr c hc; show _ ≤ tat T r c ∧ tat T r c ≤ _; omega, by have := h b hb b hb; show _ ≤ tat T b b; omega, fun c hc => by have := h b hb c hc; show _ ≤ tat T b c; omega⟩
  | i + 1, hi => by
    obtain ⟨g1, g2, g3⟩ := fwR_low hT hb hB h i (by omega)
    obtain ⟨f1, _, f3⟩ := fwR_spec hT hb i (by omega)
    have hl : (fwR T b i).length = 121 := by rw [fwR_len, hT]
    by_cases e : i = b
    · subst e
      exact fwC_lowb hl hb hB g1 (fun c hc => by rw [f3 i (Nat.le_refl _) hb c hc]; exact (h i hb c hc).1) 11 (Nat.le_refl _)
    · obtain ⟨k1, _⟩ := fwC_low hl hb hB (show i < 11 by omega) e g1 (fun c hc => by rw [f3 i (Nat.le_refl _) (by omega) c hc]; exact (h i (by omega) c hc).1) g3 g2 11 (Nat.le_refl _)
      obtain ⟨_, _, k3, _⟩ := fwC_spec hl hb (show i < 11 by omega) 11 (Nat.le_refl _)
      refine ⟨k1, ?_, fun c hc => ?_⟩
      · show _ ≤ tat (fwC _ _ _ _) b b
        rw [k3 b hb (Ne.symm e) b hb]; exact g2
      · show _ ≤ tat (fwC _ _ _ _) b c
        rw [k3 b hb (Ne.symm e) c hc]; exact g3 c hc
end
def lowB (b : Nat) : Int := 6 ^ b * 65536
theorem lowB_s (b : Nat) : lowB (b + 1) = 6 * lowB b := by unfold lowB; rw [Int.pow_succ]; rw [Int.mul_comm (6 ^ b) 6, Int.mul_assoc]
theorem lowB_pos (b : Nat) : 0 ≤ lowB b := by
  induction b with
  | zero => decide
  | succ b ih => rw [lowB_s]; omega
theorem fw_low {T : Tab} (hT : T.length = 121) (h : TIn T 65536) : ∀ b, b ≤ 11 → TIn (fw T b) (lowB b)
  | 0, _ => h
  | b + 1, hb => by
    rw [lowB_s]
    exact (fwR_low (by rw [fw_len, hT]) (show b < 11 by omega) (lowB_pos b) (fw_low hT h b (by omega)) 11 (Nat.le_refl _)).1
theorem lowB_le : ∀ {b c : Nat}, b ≤ c → lowB b ≤ lowB c
  | b, c, h => by
    induction h with
    | refl => exact Int.le_refl _
    | step _ ih => rw [lowB_s]; have := lowB_pos b; omega
theorem step_low {T : Tab} (hT : T.length = 121) (h : TIn T 65536) {b i k : Nat} (hb : b < 11) (hi : i < 11) (hk : k ≤ 11) {r c : Nat} (hr : r < 11) (hc : c < 11) : -142657607172096 ≤ tat (fwC (fwR (fw T b) b i) b i k) r c ∧ tat (fwC (fwR (fw T b) b i) b i k) r c ≤ 65536 := by
  have h1 := fw_low hT h b (by omega)
  have hl1 : (fw T b).length = 121 := by rw [fw_len, hT]
  have hB := lowB_pos b
  obtain ⟨g1, g2, g3⟩ := fwR_low hl1 hb hB h1 i (by omega)
  have hl2 : (fwR (fw T b) b i).length = 121 := by rw [fwR_len, hl1]
  obtain ⟨_, _, f3⟩ := fwR_spec hl1 hb i (by omega)
  have hrow : ∀ c, c < 11 → - lowB b ≤ tat (fwR (fw T b) b i) i c := fun c hc => by rw [f3 i (Nat.le_refl _) hi c hc]; exact (h1 i hi c hc).1
  have hall : TIn (fwC (fwR (fw T b) b i) b i k) (6 * lowB b) := by
    by_cases e : i = b
    · subst e
      exact (fwC_lowb hl2 hi hB g1 hrow k hk).1
    · exact (fwC_low hl2 hb hB hi e g1 hrow g3 g2 k hk).1
  have h2 := hall r hr c hc
  have h3 : lowB b ≤ lowB 11 := lowB_le (by omega)
  have h4 : lowB 11 = 23776267862016 := by decide
  omega
end Burst8

namespace Go.Proofs.YtpndeonmmcaikaaGreat.BurstW
open Go.G Burst8
set_option maxRecDepth 1000000
attribute [local irreducible] G.ParO G.Fin
theorem tat_cell {T : Tab} (hT : T.length = 121) {i k : Nat} (hi : i < 11) (hk : k < 11) : (T.map i64)[0 + i * 11 + k * 1]? = some (i64 (tat T i k)) := by
  unfold tat
  rw [List.getElem?_map, List.getD_eq_getElem?_getD, show 0 + i * 11 + k * 1 = 11 * i + k from by omega, List.getElem?_eq_getElem (show 11 * i + k < T.length by omega)]; rfl
theorem tset_cell {T : Tab} {i k : Nat} {x : Int} : splice (T.map i64) (0 + i * 11 + k * 1) [i64 x] = (tset T i k x).map i64 := by
  unfold tset
  rw [show 0 + i * 11 + k * 1 = 11 * i + k from by omega]
  exact splice_map
theorem cell_ble {T : Tab} (hT : T.length = 121) {i k : Nat} (hi : i < 11) (hk : k < 11) : Nat.ble (0 + i * 11 + k * 1 + 1) (T.map i64).length = true := Nat.ble_eq_true_of_le (by rw [List.length_map]; omega)
theorem map_len {T : Tab} (hT : T.length = 121) : (T.map i64).length = 121 := by rw [List.length_map, hT]
theorem whole_ble {T U : Tab} (hT : T.length = 121) (hU : U.length = 121) : Nat.ble (0 + (T.map i64).length) (U.map i64).length = true := Nat.ble_eq_true_of_le (by rw [List.length_map, List.length_map]; omega)
def zeroT : Tab := List.replicate 121 0
theorem zeroT_len : zeroT.length = 121 := rfl
set_option maxHeartbeats 4000000 in
theorem within_v (a b c : Int) : FnV Tryz.prog 132 [i64 a, i64 b, i64 c] [] (.bool (decide (b ≤ a ∧ a ≤ c))) := by
 refine FnV.intro Tryz.call132 Tryz.func132 rfl Tryz.ntmps132 rfl ?_; intro W M Rf; refine r_seq (r_region ?_); refine q_as rfl rfl rfl rfl rfl ?_; refine o_nil (r_then (r_seq (r_region ?_))); refine q_mv rfl rfl rfl rfl rfl ?_; refine q_mv rfl rfl rfl rfl rfl ?_; refine o_test rfl rfl rfl (v_leq rfl rfl rfl) (fun h9 => ?_) (fun h9 => ?_)
 all_goals
  refine q_mv rfl rfl rfl rfl rfl ?_
  first | refine o_gn rfl rfl rfl rfl ?_ | refine o_g _ rfl rfl rfl rfl (v_move rfl rfl) ?_
  first | refine o_gn rfl rfl rfl rfl ?_ | refine o_g _ rfl rfl rfl rfl (v_move rfl rfl) ?_
  first | refine o_gn rfl rfl rfl rfl ?_ | refine o_gtest rfl rfl rfl rfl (v_leq rfl rfl rfl) (fun h13 => ?_) (fun h13 => ?_)
  all_goals
   first | refine o_q _ rfl rfl rfl (v_pick_t rfl rfl rfl) ?_ | refine o_q _ rfl rfl rfl (v_pick_f rfl rfl rfl) ?_
   refine q_as rfl rfl rfl rfl rfl ?_; refine o_nil (r_then ?_); refine r_ret ?_
   first | exact r_retv2 (Rd.tmp rfl rfl) (congrArg Value.bool (decide_eq_true (by omega)).symm) SelMC.sel SubRC.sub | exact r_retv2 (Rd.tmp rfl rfl) (congrArg Value.bool (decide_eq_false (by omega)).symm) SelMC.sel SubRC.sub
set_option maxHeartbeats 4000000 in
theorem isSpan_v (lo hi a b : Int) : FnV Tryz.prog 133 [.agg #[i64 lo, i64 hi], i64 a, i64 b] [] (.bool (decide (a ≤ lo ∧ lo ≤ hi ∧ hi ≤ b))) := by
 refine FnV.intro Tryz.call133 Tryz.func133 rfl Tryz.ntmps133 rfl ?_; intro W M Rf; refine r_seq (r_region ?_); refine o_boxA rfl rfl rfl rfl rfl (fun b3 => ?_); refine q_as rfl rfl rfl rfl rfl ?_; refine o_nil (r_then (r_seq (r_region ?_))); refine q_mv rfl rfl rfl rfl rfl ?_; refine o_q _ rfl rfl rfl (v_fieldAddr rfl Tryz.underlying43 inf3 rfl rfl rfl rfl) ?_; refine o_q _ rfl rfl rfl (v_ld1 rfl Tryz.underlying3 rfl rfl rfl) ?_; refine o_test rfl rfl rfl (v_leq rfl rfl rfl) (fun h10 => ?_) (fun h10 => ?_)
 all_goals
  refine q_mv rfl rfl rfl rfl rfl ?_
  first | refine o_gn rfl rfl rfl rfl ?_ | refine o_g _ rfl rfl rfl rfl (v_fieldAddr rfl Tryz.underlying43 inf3 rfl rfl rfl rfl) ?_
  first | refine o_gn rfl rfl rfl rfl ?_ | refine o_g _ rfl rfl rfl rfl (v_ld1 rfl Tryz.underlying3 rfl rfl rfl) ?_
  first | refine o_gn rfl rfl rfl rfl ?_ | refine o_g _ rfl rfl rfl rfl (v_fieldAddr rfl Tryz.underlying43 inf3 rfl rfl rfl rfl) ?_
  first | refine o_gn rfl rfl rfl rfl ?_ | refine o_g _ rfl rfl rfl rfl (v_ld1 rfl Tryz.underlying3 rfl rfl rfl) ?_
  first | refine o_gn rfl rfl rfl rfl ?_ | refine o_gtest rfl rfl rfl rfl (v_leq rfl rfl rfl) (fun h16 => ?_) (fun h16 => ?_)
  all_goals
   first | refine o_q _ rfl rfl rfl (v_pick_t rfl rfl rfl) ?_ | refine o_q _ rfl rfl rfl (v_pick_f rfl rfl rfl) ?_
   refine q_mv rfl rfl rfl rfl rfl ?_
   first | refine o_gn rfl rfl rfl rfl ?_ | refine o_g _ rfl rfl rfl rfl (v_fieldAddr rfl Tryz.underlying43 inf3 rfl rfl rfl rfl) ?_
   first | refine o_gn rfl rfl rfl rfl ?_ | refine o_g _ rfl rfl rfl rfl (v_ld1 rfl Tryz.underlying3 rfl rfl rfl) ?_
   first | refine o_gn rfl rfl rfl rfl ?_ | refine o_g _ rfl rfl rfl rfl (v_move rfl rfl) ?_
   first | refine o_gn rfl rfl rfl rfl ?_ | refine o_gtest rfl rfl rfl rfl (v_leq rfl rfl rfl) (fun h22 => ?_) (fun h22 => ?_)
   all_goals
    first | refine o_q _ rfl rfl rfl (v_pick_t rfl rfl rfl) ?_ | refine o_q _ rfl rfl rfl (v_pick_f rfl rfl rfl) ?_
    refine q_as rfl rfl rfl rfl rfl ?_; refine o_nil (r_then ?_); refine r_ret ?_
    first | exact r_retv2 (Rd.tmp rfl rfl) (congrArg Value.bool (decide_eq_true (by omega)).symm) SelMC.sel SubRC.sub | exact r_retv2 (Rd.tmp rfl rfl) (congrArg Value.bool (decide_eq_false (by omega)).symm) SelMC.sel SubRC.sub
set_option maxHeartbeats 4000000 in
theorem ask_t (e : Int) : FnV Tryz.prog 83 [.bool true, i64 e] [] (.tuple #[]) := by
 refine FnV.intro Tryz.call83 Tryz.func83 rfl Tryz.ntmps83 rfl ?_; intro W M Rf; refine r_seq (r_region ?_); refine q_mv rfl rfl rfl rfl rfl ?_; refine o_q _ rfl rfl rfl (v_not rfl rfl) ?_; refine o_nil (r_then ?_); refine r_cond rfl (fun hc5 => ?_) (fun hc5 => ?_)
 ·
  (exfalso; revert hc5; decide)
 ·
  refine r_skip ?_; exact r_endv (Rd.none rfl) SelMC.sel SubRC.sub
set_option maxHeartbeats 4000000 in
theorem ask_f (e : Int) : FnX Tryz.prog 83 [.bool false, i64 e] [] (.iface 226 (i64 e)) := by
 refine FnX.intro Tryz.call83 Tryz.func83 rfl Tryz.ntmps83 rfl ?_; intro W M Rf; refine r_seq (r_region ?_); refine q_mv rfl rfl rfl rfl rfl ?_; refine o_q _ rfl rfl rfl (v_not rfl rfl) ?_; refine o_nil (r_then ?_); refine r_cond rfl (fun hc5 => ?_) (fun hc5 => ?_)
 ·
  refine r_region ?_; refine q_mv rfl rfl rfl rfl rfl ?_; refine o_q _ rfl rfl rfl (v_makeIface rfl Tryz.underlying226 rfl rfl) ?_; refine o_panic rfl rfl rfl ?_; exact r_retx SelMC.sel SubRC.sub
 ·
  (exfalso; revert hc5; decide)
set_option maxHeartbeats 4000000 in
theorem answer_ans : AnsP Tryz.prog 77 .i64 226 47 := by
  refine ⟨Tryz.call77, fun W M R w b hw => ?_, fun W M R w b x y hw => ?_⟩
  · refine ans_intro (args := [pt b 0]) (u' := .returning) (v := .nilIface) Tryz.func77 rfl Tryz.ntmps77 rfl rfl rfl rfl rfl rfl rfl rfl rfl (fun c₀ cs h => .inr ⟨rec_ret h, rfl, rfl⟩) hw ?_
    intro c₀ cs
    refine r_seq ?_
    refine r_region ?_
    refine o_q _ rfl rfl rfl (v_move rfl rfl) ?_
    refine o_q _ rfl rfl rfl (v_ifnil rfl Tryz.underlying20 rfl) ?_
    refine o_nil ?_
    with_reducible refine r_then ?_
    refine r_cond rfl (fun hc7 => ?_) (fun hc7 => ?_)
    ·
      (exfalso; revert hc7; decide)
    ·
      refine r_skip ?_
      exact r_ends (Rd.none rfl) (fun w' h => ⟨⟨_, rfl⟩, rfl, h⟩)
  · refine ans_intro (args := [pt b 0]) (u' := .panicking [{ v := .iface 226 (i64 y), recovered := true }]) (v := .iface 226 (i64 y)) Tryz.func77 rfl Tryz.ntmps77 rfl rfl rfl rfl rfl rfl rfl rfl rfl (fun c₀ cs h => .inl (rec_pan h)) hw ?_
    intro c₀ cs
    refine r_seq ?_
    refine r_region ?_
    refine o_q _ rfl rfl rfl (v_move rfl rfl) ?_
    refine o_q _ rfl rfl rfl (v_ifnn rfl Tryz.underlying20 rfl) ?_
    refine o_nil ?_
    with_reducible refine r_then ?_
    refine r_cond rfl (fun hc7 => ?_) (fun hc7 => ?_)
    ·
      refine r_seq ?_
      refine r_region ?_
      refine o_q _ rfl rfl rfl (v_move rfl rfl) ?_
      refine o_q _ rfl rfl rfl (v_assertOk rfl Tryz.underlying226 rfl rfl) ?_
      refine o_q _ rfl rfl rfl (v_move rfl rfl) ?_
      refine o_q _ rfl rfl rfl (v_extract rfl rfl rfl) ?_
      refine o_q _ rfl rfl rfl (v_extract rfl rfl rfl) ?_
      refine o_q _ rfl rfl rfl (v_assign rfl rfl) ?_
      refine o_q _ rfl rfl rfl (v_assign rfl rfl) ?_
      refine o_nil ?_
      with_reducible refine r_then ?_
      refine r_seq ?_
      refine r_seq ?_
      refine r_region ?_
      refine o_q _ rfl rfl rfl (v_move rfl rfl) ?_
      refine o_q _ rfl rfl rfl (v_not rfl rfl) ?_
      refine o_nil ?_
      with_reducible refine r_then ?_
      refine r_cond rfl (fun hc14 => ?_) (fun hc14 => ?_)
      ·
        (exfalso; revert hc14; decide)
      ·
        refine r_skip ?_
        with_reducible refine r_then ?_
        refine r_region ?_
        refine o_q _ rfl rfl rfl (v_move rfl rfl) ?_
        refine o_q _ rfl rfl rfl (v_move rfl rfl) ?_
        refine o_q _ rfl rfl rfl (v_nilCheck rfl rfl) ?_
        refine o_st rfl inf47 rfl rfl rfl rfl rfl rfl rfl rfl ?_
        refine o_nil ?_
        exact r_ends (Rd.none rfl) (fun w' h => ⟨⟨_, rfl⟩, rfl, h⟩)
    ·
      (exfalso; revert hc7; decide)
set_option maxHeartbeats 4000000 in
theorem tspan_v (T : Tab) (hT : T.length = 121) (a b : Nat) (ha : a < 11) (hb : b < 11) (hlo : -1000000000000000 ≤ tat T b a ∧ tat T b a ≤ 65536) : FnV Tryz.prog 141 [.agg ((T).map i64).toArray, i64 a, i64 b] [] (.agg #[i64 (0 - tat T b a), i64 (tat T a b)]) := by
 refine FnV.intro Tryz.call141 Tryz.func141 rfl Tryz.ntmps141 rfl ?_; intro W M Rf; refine r_seq (r_region ?_); refine o_boxA rfl rfl rfl rfl rfl (fun b3 => ?_); refine o_alloc rfl inf43 rfl rfl rfl rfl rfl (fun b6 => ?_); refine o_nil (r_then (r_seq ?_)); refine r_par' 11 mixed (by kernel_rfl) (by rfl) ?_; refine p_q _ rfl rfl rfl (fun _ _ => v_move rfl rfl) ?_; refine p_q _ rfl rfl rfl (fun _ _ => v_move rfl rfl) ?_; refine p_q _ rfl rfl rfl (fun _ _ => v_indexAddrAn rfl Tryz.underlying154 inf152 rfl rfl (by omega)) ?_; refine p_q _ rfl rfl rfl (fun _ _ => v_indexAddrAn rfl Tryz.underlying152 inf3 rfl rfl (by omega)) ?_; refine p_q _ rfl rfl rfl (fun _ _ => v_ld1 rfl Tryz.underlying3 rfl rfl (tat_cell (by assumption) (by omega) (by omega))) ?_; refine p_q _ rfl rfl rfl (fun _ _ => v_neg rfl rfl (by omega)) ?_; refine p_q _ rfl rfl rfl (fun _ _ => v_move rfl rfl) ?_; refine p_q _ rfl rfl rfl (fun _ _ => v_move rfl rfl) ?_; refine p_q _ rfl rfl rfl (fun _ _ => v_indexAddrAn rfl Tryz.underlying154 inf152 rfl rfl (by omega)) ?_; refine p_q _ rfl rfl rfl (fun _ _ => v_indexAddrAn rfl Tryz.underlying152 inf3 rfl rfl (by omega)) ?_; refine p_q _ rfl rfl rfl (fun _ _ => v_ld1 rfl Tryz.underlying3 rfl rfl (tat_cell (by assumption) (by omega) (by omega))) ?_; refine p_nil2 (by simp only [List.nil_append, List.cons_append]; rfl) rfl ?_; (iterate 11 refine f_q rfl ?_); refine f_nil ?_; refine o_q _ rfl rfl rfl (v_bS rfl Tryz.underlying43 inf43 plt43 rfl rfl rfl (by repeat (first | exact trivial | refine ⟨rfl, ?_⟩)) (by rfl)) ?_; refine o_st rfl inf43 rfl rfl rfl rfl rfl rfl rfl rfl ?_; refine o_nil (r_then ?_); refine r_ret ?_; exact r_retv2 (Rd.one rfl (RdI.cellW Tryz.underlying43 rfl inf43 rfl rfl)) rfl SelMC.sel SubRC.sub
def emC (i : Nat) (T : Tab) : Nat → Tab
  | 0 => T
  | k + 1 => if i = k then emC i T k else tset (emC i T k) i k 65536
def emR : Nat → Tab
  | 0 => zeroT
  | i + 1 => emC i (emR i) 11
theorem emC_len {i : Nat} {T : Tab} : ∀ k, (emC i T k).length = T.length
  | 0 => rfl
  | k + 1 => by unfold emC; split <;> simp [tset_len, emC_len k]
theorem emR_len : ∀ i, (emR i).length = 121
  | 0 => rfl
  | i + 1 => by rw [emR, emC_len, emR_len i]
theorem emR_all : emR 11 = emptyT := by decide +kernel
set_option maxHeartbeats 4000000 in
theorem empty_v  : FnV Tryz.prog 162 [] [] (.agg ((emptyT).map i64).toArray) := by
 refine FnV.intro Tryz.call162 Tryz.func162 rfl Tryz.ntmps162 rfl ?_; intro W M Rf; refine r_seq (r_region ?_); refine o_alloc (zs := zeroT.map i64) rfl inf154 rfl (by kernel_rfl) rfl rfl rfl (fun b0 => ?_); refine o_nil (r_then (r_seq ?_)); refine r_seq (r_region ?_); refine q_mv rfl rfl rfl rfl rfl ?_; refine o_nil (r_then ?_); refine r_block ?_; refine r_loop (ι := Nat) (fun i => i ≤ 11) (fun i => [(0, pt b0 0), (3, i64 i)]) (fun i => bx b0 154 ((emR i).map i64) :: M) (fun i => [] ++ Rf) (fun i => 11 - i) 0 ?_ ?_ ?_
 ·
  refine Imp.box_to b0 ((emR 0).map i64) rfl ?_; exact r_here (by repeat (first | exact FSub.nil | refine FSub.cons rfl ?_)) SelMC.sel SubRC.sub
 ·
  omega
 ·
  rintro i hI0; refine r_seq (r_region ?_); refine o_q _ rfl rfl rfl (v_lss rfl rfl rfl) ?_; refine o_nil (r_then (r_seq ?_)); refine r_condd rfl (fun hc4 => ?_) (fun hc4 => ?_)
  ·
   refine r_skip (r_then ?_); refine r_seq (r_block ?_); refine r_seq (r_region ?_); refine q_mv rfl rfl rfl rfl rfl ?_; refine q_as rfl rfl rfl rfl rfl ?_; refine o_nil (r_then (r_seq (r_region ?_))); refine q_mv rfl rfl rfl rfl rfl ?_; refine o_nil (r_then ?_); refine r_block ?_; refine r_loop (ι := Nat) (fun k => k ≤ 11) (fun k => [(0, pt b0 0), (1, i64 i), (3, i64 i), (6, i64 k)]) (fun k => bx b0 154 ((emC i (emR i) k).map i64) :: M) (fun k => [] ++ Rf) (fun k => 11 - k) 0 ?_ ?_ ?_
   ·
    refine Imp.box_to b0 ((emC i (emR i) 0).map i64) rfl ?_; exact r_here (by repeat (first | exact FSub.nil | refine FSub.cons rfl ?_)) SelMC.sel SubRC.sub
   ·
    omega
   ·
    rintro k hI1; refine r_seq (r_region ?_); refine o_q _ rfl rfl rfl (v_lss rfl rfl rfl) ?_; refine o_nil (r_then (r_seq ?_)); refine r_condd rfl (fun hc7 => ?_) (fun hc7 => ?_)
    ·
     refine r_skip (r_then ?_); refine r_seq (r_block ?_); refine r_seq (r_region ?_); refine q_mv rfl rfl rfl rfl rfl ?_; refine q_as rfl rfl rfl rfl rfl ?_; refine o_nil (r_then (r_seq (r_region ?_))); refine q_mv rfl rfl rfl rfl rfl ?_; refine q_mv rfl rfl rfl rfl rfl ?_; refine o_q _ rfl rfl rfl (v_neq rfl rfl rfl) ?_; refine o_nil (r_then ?_); refine r_condd rfl (fun hc11 => ?_) (fun hc11 => ?_)
     ·
      have hl := emC_len (i := i) (T := emR i) k; have hl2 := emR_len i; have hl3 : (emC i (emR i) k).length = 121 := by omega
      refine r_region ?_; refine q_mv rfl rfl rfl rfl rfl ?_; refine q_mv rfl rfl rfl rfl rfl ?_; refine o_q _ rfl rfl rfl (v_indexAddrAn rfl Tryz.underlying154 inf152 rfl rfl (by omega)) ?_; refine o_q _ rfl rfl rfl (v_indexAddrAn rfl Tryz.underlying152 inf3 rfl rfl (by omega)) ?_; refine o_st (us := [i64 _]) rfl inf3 rfl rfl rfl rfl rfl rfl rfl (cell_ble (by assumption) (by omega) (by omega)) ?_; refine o_nil ?_; refine r_in_normal ?_; refine r_then ?_; refine r_region ?_; refine o_q _ rfl rfl rfl (v_add rfl rfl rfl (by omega)) ?_; refine q_mv rfl rfl rfl rfl rfl ?_; refine o_nil (r_then ?_); refine r_next (k + 1) ?_ ?_ ?_
      ·
       refine Imp.box_to b0 ((emC i (emR i) (k + 1)).map i64) (by first | exact tset_cell.trans (by rw [emC, if_neg (by omega)]) | (rw [emC, if_pos (by omega)]; done)) ?_; exact r_here (by repeat (first | exact FSub.nil | refine FSub.cons rfl ?_)) SelMC.sel SubRC.sub
      ·
       omega
      ·
       omega
     ·
      refine r_skip ?_; refine r_in_normal ?_; refine r_then ?_; refine r_region ?_; refine o_q _ rfl rfl rfl (v_add rfl rfl rfl (by omega)) ?_; refine q_mv rfl rfl rfl rfl rfl ?_; refine o_nil (r_then ?_); refine r_next (k + 1) ?_ ?_ ?_
      ·
       refine Imp.box_to b0 ((emC i (emR i) (k + 1)).map i64) (by first | exact tset_cell.trans (by rw [emC, if_neg (by omega)]) | (rw [emC, if_pos (by omega)]; done)) ?_; exact r_here (by repeat (first | exact FSub.nil | refine FSub.cons rfl ?_)) SelMC.sel SubRC.sub
      ·
       omega
      ·
       omega
    ·
     refine r_exit ?_; refine r_then_exit ?_; refine r_then_exit ?_; refine r_in_here ?_; refine r_in_normal ?_; refine r_then ?_; refine r_region ?_; refine o_q _ rfl rfl rfl (v_add rfl rfl rfl (by omega)) ?_; refine q_mv rfl rfl rfl rfl rfl ?_; refine o_nil (r_then ?_); refine r_next (i + 1) ?_ ?_ ?_
     ·
      refine Imp.box_to b0 ((emR (i + 1)).map i64) (by rw [show k = 11 by omega]; rfl) ?_; exact r_here (by repeat (first | exact FSub.nil | refine FSub.cons rfl ?_)) SelMC.sel SubRC.sub
     ·
      omega
     ·
      omega
  ·
   refine r_exit ?_; refine r_then_exit ?_; refine r_then_exit ?_; refine r_in_here ?_; refine r_then (r_seq (r_region ?_)); refine o_q _ rfl rfl rfl (v_ldW rfl Tryz.underlying154 rfl inf154 rfl (map_len (emR_len _))) ?_; refine o_st (us := (emR i).map i64) rfl inf154 rfl rfl rfl rfl rfl (map_len (emR_len _)) (oneCells_map _) (whole_ble (emR_len _) (by first | exact zeroT_len | exact emR_len _)) ?_; refine o_nil (r_then ?_); refine r_ret ?_; refine Imp.box_to b0 ((emR i).map i64) (splice_all (by first | rfl | (simp only [List.length_map]; rw [zeroT_len]; omega))) ?_; exact r_retv2 (Rd.one rfl (RdI.cellW Tryz.underlying154 rfl inf154 rfl (map_len (emR_len i)))) (by rw [← emR_all, show i = 11 by omega]) SelMC.sel SubRC.sub
theorem encN_len (x : Bnd) : (encN x).length = 4 := rfl
set_option maxHeartbeats 4000000 in
theorem put_v (T : Tab) (hT : T.length = 121) (x : Bnd) (oa : Option Addr) (oc : Nat) (hx : InT x) (hTT : TIn T 65536) : FnV Tryz.prog 163 [.agg ((T).map i64).toArray, .slice oa 1 oc] [rowD oa 4 encN [x]] (.agg ((put1 T x).map i64).toArray) := by
 refine FnV.intro Tryz.call163 Tryz.func163 rfl Tryz.ntmps163 rfl ?_; intro W M Rf; refine r_seq (r_region ?_); refine o_boxA rfl rfl rfl rfl rfl (fun b2 => ?_); refine o_alloc (zs := zeroT.map i64) rfl inf154 rfl (by kernel_rfl) rfl rfl rfl (fun b4 => ?_); refine o_nil (r_then (r_seq ?_)); refine r_seq (r_region ?_); refine q_mv rfl rfl rfl rfl rfl ?_; refine o_q _ rfl rfl rfl (v_len rfl rfl Tryz.underlying330 rfl) ?_; refine q_mv rfl rfl rfl rfl rfl ?_; refine o_nil (r_then ?_); refine r_block ?_; refine r_loop (ι := Nat) (fun k => k ≤ 1) (fun k => [(2, pt b2 0), (4, pt b4 0), (7, .slice oa 1 oc), (8, i64 1), (9, i64 k)]) (fun k => bx b2 154 ((([x].take k).foldl put1 T).map i64) :: bx b4 154 ((zeroT).map i64) :: M) (fun k => [rowD oa 4 encN [x]] ++ Rf) (fun k => 1 - k) 0 ?_ ?_ ?_
 ·
  refine Imp.box_to b2 ((([x].take 0).foldl put1 T).map i64) rfl ?_; exact r_here (by repeat (first | exact FSub.nil | refine FSub.cons rfl ?_)) SelMC.sel SubRC.sub
 ·
  omega
 ·
  rintro k hI0; refine r_seq (r_region ?_); refine o_q _ rfl rfl rfl (v_lss rfl rfl rfl) ?_; refine o_nil (r_then (r_seq ?_)); refine r_condd rfl (fun hc10 => ?_) (fun hc10 => ?_)
  ·
   refine r_skip (r_then ?_); refine r_seq (r_block ?_); refine r_seq (r_region ?_); refine o_q _ rfl rfl rfl (v_indexAddrSn rfl Tryz.underlying330 inf291 rfl rfl rfl (by omega) rfl) ?_; refine o_q _ rfl rfl rfl (v_loadEN rfl Tryz.underlying291 rfl inf291 rfl (by show k < 1; omega) rfl rfl rfl) ?_; refine o_alloc rfl inf291 rfl rfl rfl rfl rfl (fun b6 => ?_); refine o_st rfl inf291 rfl rfl rfl rfl rfl rfl rfl rfl ?_; refine o_nil (r_then (r_seq ?_)); obtain rfl : k = 0 := by omega
   refine Imp.box_to b6 [i64 x.a, i64 x.b, i64 x.lo, i64 x.hi] rfl ?_; refine Imp.box_to b2 (T.map i64) rfl ?_; have ha := hx.1; have hb := hx.2.1; have hlo := hx.2.2.1; refine r_par' 16 mixed (by kernel_rfl) (by rfl) ?_; refine p_q _ rfl rfl rfl (fun _ _ => v_fieldAddr rfl Tryz.underlying291 inf3 rfl rfl rfl rfl) ?_; refine p_q _ rfl rfl rfl (fun _ _ => v_ld1 rfl Tryz.underlying3 rfl rfl rfl) ?_; refine p_q _ rfl rfl rfl (fun _ _ => v_fieldAddr rfl Tryz.underlying291 inf3 rfl rfl rfl rfl) ?_; refine p_q _ rfl rfl rfl (fun _ _ => v_ld1 rfl Tryz.underlying3 rfl rfl rfl) ?_; refine p_q _ rfl rfl rfl (fun _ _ => v_fieldAddr rfl Tryz.underlying291 inf3 rfl rfl rfl rfl) ?_; refine p_q _ rfl rfl rfl (fun _ _ => v_ld1 rfl Tryz.underlying3 rfl rfl rfl) ?_; refine p_q _ rfl rfl rfl (fun _ _ => v_fieldAddr rfl Tryz.underlying291 inf3 rfl rfl rfl rfl) ?_; refine p_q _ rfl rfl rfl (fun _ _ => v_ld1 rfl Tryz.underlying3 rfl rfl rfl) ?_; refine p_q _ rfl rfl rfl (fun _ _ => v_indexAddrAn rfl Tryz.underlying154 inf152 rfl rfl (by omega)) ?_; refine p_q _ rfl rfl rfl (fun _ _ => v_indexAddrAn rfl Tryz.underlying152 inf3 rfl rfl (by omega)) ?_; refine p_q _ rfl rfl rfl (fun _ _ => v_ld1 rfl Tryz.underlying3 rfl rfl (tat_cell (hT) (by omega) (by omega))) ?_; refine p_q _ rfl rfl rfl (fun _ _ => v_fieldAddr rfl Tryz.underlying291 inf43 rfl rfl rfl rfl) ?_; refine p_q _ rfl rfl rfl (fun _ _ => v_fieldAddr rfl Tryz.underlying43 inf3 rfl rfl rfl rfl) ?_; refine p_q _ rfl rfl rfl (fun _ _ => v_ld1 rfl Tryz.underlying3 rfl rfl rfl) ?_; refine p_q _ rfl rfl rfl (fun _ _ => v_min2 rfl rfl rfl) ?_; refine p_q _ rfl rfl rfl (fun _ _ => v_indexAddrAn rfl Tryz.underlying154 inf152 rfl rfl (by omega)) ?_; refine p_nil2 (by simp only [List.nil_append, List.cons_append]; rfl) rfl ?_; (iterate 16 refine f_q rfl ?_); refine f_nil ?_; refine o_q _ rfl rfl rfl (v_indexAddrAn rfl Tryz.underlying152 inf3 rfl rfl (by omega)) ?_; refine o_st (us := [i64 _]) rfl inf3 rfl rfl rfl rfl rfl rfl rfl (cell_ble hT (by omega) (by omega)) ?_; refine o_nil (r_then ?_); refine Imp.box_to b2 ((putA T x).map i64) (by exact tset_cell) ?_; refine r_par' 17 mixed (by kernel_rfl) (by rfl) ?_; refine p_q _ rfl rfl rfl (fun _ _ => v_fieldAddr rfl Tryz.underlying291 inf3 rfl rfl rfl rfl) ?_; refine p_q _ rfl rfl rfl (fun _ _ => v_ld1 rfl Tryz.underlying3 rfl rfl rfl) ?_; refine p_q _ rfl rfl rfl (fun _ _ => v_fieldAddr rfl Tryz.underlying291 inf3 rfl rfl rfl rfl) ?_; refine p_q _ rfl rfl rfl (fun _ _ => v_ld1 rfl Tryz.underlying3 rfl rfl rfl) ?_; refine p_q _ rfl rfl rfl (fun _ _ => v_fieldAddr rfl Tryz.underlying291 inf3 rfl rfl rfl rfl) ?_; refine p_q _ rfl rfl rfl (fun _ _ => v_ld1 rfl Tryz.underlying3 rfl rfl rfl) ?_
   refine p_q _ rfl rfl rfl (fun _ _ => v_fieldAddr rfl Tryz.underlying291 inf3 rfl rfl rfl rfl) ?_; refine p_q _ rfl rfl rfl (fun _ _ => v_ld1 rfl Tryz.underlying3 rfl rfl rfl) ?_; refine p_q _ rfl rfl rfl (fun _ _ => v_indexAddrAn rfl Tryz.underlying154 inf152 rfl rfl (by omega)) ?_; refine p_q _ rfl rfl rfl (fun _ _ => v_indexAddrAn rfl Tryz.underlying152 inf3 rfl rfl (by omega)) ?_; refine p_q _ rfl rfl rfl (fun _ _ => v_ld1 rfl Tryz.underlying3 rfl rfl (tat_cell ((by rw [putA_len, hT])) (by omega) (by omega))) ?_; refine p_q _ rfl rfl rfl (fun _ _ => v_fieldAddr rfl Tryz.underlying291 inf43 rfl rfl rfl rfl) ?_; refine p_q _ rfl rfl rfl (fun _ _ => v_fieldAddr rfl Tryz.underlying43 inf3 rfl rfl rfl rfl) ?_; refine p_q _ rfl rfl rfl (fun _ _ => v_ld1 rfl Tryz.underlying3 rfl rfl rfl) ?_; refine p_q _ rfl rfl rfl (fun _ _ => v_neg rfl rfl (by omega)) ?_; refine p_q _ rfl rfl rfl (fun _ _ => v_min2 rfl rfl rfl) ?_; refine p_q _ rfl rfl rfl (fun _ _ => v_indexAddrAn rfl Tryz.underlying154 inf152 rfl rfl (by omega)) ?_; refine p_nil2 (by simp only [List.nil_append, List.cons_append]; rfl) rfl ?_; (iterate 17 refine f_q rfl ?_); refine f_nil ?_; refine o_q _ rfl rfl rfl (v_indexAddrAn rfl Tryz.underlying152 inf3 rfl rfl (by omega)) ?_; refine o_st (us := [i64 _]) rfl inf3 rfl rfl rfl rfl rfl rfl rfl (cell_ble (by rw [putA_len, hT]) (by omega) (by omega)) ?_; refine o_nil ?_; refine r_in_normal ?_; refine r_then ?_; refine r_region ?_; refine o_q _ rfl rfl rfl (v_add rfl rfl rfl (by omega)) ?_; refine q_mv rfl rfl rfl rfl rfl ?_; refine o_nil (r_then ?_); refine r_next 1 ?_ ?_ ?_
   ·
    refine Imp.box_to b2 ((([x].take 1).foldl put1 T).map i64) (by exact tset_cell) ?_; exact r_here (by repeat (first | exact FSub.nil | refine FSub.cons rfl ?_)) SelMC.sel SubRC.sub
   ·
    omega
   ·
    omega
  ·
   refine r_exit ?_; refine r_then_exit ?_; refine r_then_exit ?_; refine r_in_here ?_; refine r_then (r_seq (r_region ?_)); refine o_q _ rfl rfl rfl (v_ldW rfl Tryz.underlying154 rfl inf154 rfl (map_len (by rw [foldl_len, hT]))) ?_; refine o_st (us := ((([x].take k).foldl put1 T)).map i64) rfl inf154 rfl rfl rfl rfl rfl (map_len (by rw [foldl_len]; assumption)) (oneCells_map _) (whole_ble (by rw [foldl_len]; assumption) (by first | exact zeroT_len | exact by rw [foldl_len]; assumption)) ?_; refine o_nil (r_then ?_); refine r_ret ?_; obtain rfl : k = 1 := by omega
   refine Imp.box_to b4 ((put1 T x).map i64) (splice_all (by simp only [List.length_map]; rw [zeroT_len, put1_len, hT])) ?_; exact r_retv2 (Rd.one rfl (RdI.cellW Tryz.underlying154 rfl inf154 rfl (map_len (by rw [put1_len, hT])))) rfl SelMC.sel SubRC.sub
theorem all_step {p : Nat → Prop} {k : Nat} (h : ∀ j, j < k → p j) (hk : p k) : ∀ j, j < k + 1 → p j := fun j hj => by
  by_cases e : j = k
  · subst e; exact hk
  · exact h j (by omega)
theorem fw_0 (T : Tab) : fw T 0 = T := rfl
theorem fw_s (T : Tab) (b : Nat) : fw T (b + 1) = fwR (fw T b) b 11 := rfl
theorem fwR_0 (T : Tab) (b : Nat) : fwR T b 0 = T := rfl
theorem fwR_s (T : Tab) (b i : Nat) : fwR T b (i + 1) = fwC (fwR T b i) b i 11 := rfl
theorem fwC_0 (T : Tab) (b i : Nat) : fwC T b i 0 = T := rfl
theorem fwC_s (T : Tab) (b i k : Nat) : fwC T b i (k + 1) = tset (fwC T b i k) i k (min (tat (fwC T b i k) i k) (tat (fwC T b i k) i b + tat (fwC T b i k) b k)) := rfl
attribute [local irreducible] fw fwR fwC emptyT
set_option maxHeartbeats 4000000 in
theorem closed_v (T : Tab) (hT : T.length = 121) (hTT : TIn T 65536) : FnV Tryz.prog 165 [.agg ((T).map i64).toArray] [] (.tuple #[.agg ((fw T 11).map i64).toArray, .bool (decide (Burst8.Can T))]) := by
 refine FnV.intro Tryz.call165 Tryz.func165 rfl Tryz.ntmps165 rfl ?_; intro W M Rf; refine r_seq (r_region ?_); refine o_boxA rfl rfl rfl rfl rfl (fun b1 => ?_); refine o_alloc (zs := zeroT.map i64) rfl inf154 rfl (by kernel_rfl) rfl rfl rfl (fun b2 => ?_); refine q_as rfl rfl rfl rfl rfl ?_; refine o_nil (r_then (r_seq ?_)); refine r_seq (r_region ?_); refine q_mv rfl rfl rfl rfl rfl ?_; refine o_nil (r_then ?_); refine r_block ?_; refine r_loop (ι := Nat) (fun b => b ≤ 11) (fun b => [(1, pt b1 0), (2, pt b2 0), (3, .bool false), (8, i64 b)]) (fun b => bx b1 154 ((fw T b).map i64) :: bx b2 154 ((zeroT).map i64) :: M) (fun b => [] ++ Rf) (fun b => 11 - b) 0 ?_ ?_ ?_
 ·
  refine Imp.box_to b1 ((fw T 0).map i64) (by rw [fw_0]) ?_; exact r_here (by repeat (first | exact FSub.nil | refine FSub.cons rfl ?_)) SelMC.sel SubRC.sub
 ·
  omega
 ·
  rintro b hI0; refine r_seq (r_region ?_); refine o_q _ rfl rfl rfl (v_lss rfl rfl rfl) ?_; refine o_nil (r_then (r_seq ?_)); refine r_condd rfl (fun hc9 => ?_) (fun hc9 => ?_)
  ·
   refine r_skip (r_then ?_); refine r_seq (r_block ?_); refine r_seq (r_region ?_); refine q_mv rfl rfl rfl rfl rfl ?_; refine q_as rfl rfl rfl rfl rfl ?_; refine o_nil (r_then (r_seq (r_region ?_))); refine q_mv rfl rfl rfl rfl rfl ?_; refine o_nil (r_then ?_); refine r_block ?_; refine r_loop (ι := Nat) (fun i => i ≤ 11) (fun i => [(1, pt b1 0), (2, pt b2 0), (3, .bool false), (4, i64 b), (8, i64 b), (11, i64 i)]) (fun i => bx b1 154 ((fwR (fw T b) b i).map i64) :: bx b2 154 ((zeroT).map i64) :: M) (fun i => [] ++ Rf) (fun i => 11 - i) 0 ?_ ?_ ?_
   ·
    refine Imp.box_to b1 ((fwR (fw T b) b 0).map i64) (by rw [fwR_0]) ?_; exact r_here (by repeat (first | exact FSub.nil | refine FSub.cons rfl ?_)) SelMC.sel SubRC.sub
   ·
    omega
   ·
    rintro i hI1; refine r_seq (r_region ?_); refine o_q _ rfl rfl rfl (v_lss rfl rfl rfl) ?_; refine o_nil (r_then (r_seq ?_)); refine r_condd rfl (fun hc12 => ?_) (fun hc12 => ?_)
    ·
     refine r_skip (r_then ?_); refine r_seq (r_block ?_); refine r_seq (r_region ?_); refine q_mv rfl rfl rfl rfl rfl ?_; refine q_as rfl rfl rfl rfl rfl ?_; refine o_nil (r_then (r_seq (r_region ?_))); refine q_mv rfl rfl rfl rfl rfl ?_; refine o_nil (r_then ?_); refine r_block ?_; refine r_loop (ι := Nat) (fun k => k ≤ 11) (fun k => [(1, pt b1 0), (2, pt b2 0), (3, .bool false), (4, i64 b), (5, i64 i), (8, i64 b), (11, i64 i), (14, i64 k)]) (fun k => bx b1 154 ((fwC (fwR (fw T b) b i) b i k).map i64) :: bx b2 154 ((zeroT).map i64) :: M) (fun k => [] ++ Rf) (fun k => 11 - k) 0 ?_ ?_ ?_
     ·
      refine Imp.box_to b1 ((fwC (fwR (fw T b) b i) b i 0).map i64) (by rw [fwC_0]) ?_; exact r_here (by repeat (first | exact FSub.nil | refine FSub.cons rfl ?_)) SelMC.sel SubRC.sub
     ·
      omega
     ·
      rintro k hI2; refine r_seq (r_region ?_); refine o_q _ rfl rfl rfl (v_lss rfl rfl rfl) ?_; refine o_nil (r_then (r_seq ?_)); refine r_condd rfl (fun hc15 => ?_) (fun hc15 => ?_)
      ·
       refine r_skip (r_then ?_); refine r_seq (r_block ?_); refine r_seq (r_region ?_); refine q_mv rfl rfl rfl rfl rfl ?_; refine q_as rfl rfl rfl rfl rfl ?_; refine o_nil (r_then ?_); have hl : (fwC (fwR (fw T b) b i) b i k).length = 121 := by rw [fwC_len, fwR_len, fw_len, hT]
       have h1 := step_low hT hTT (b := b) (i := i) (k := k) (by omega) (by omega) (by omega) (r := i) (c := b) (by omega) (by omega); have h2 := step_low hT hTT (b := b) (i := i) (k := k) (by omega) (by omega) (by omega) (r := b) (c := k) (by omega) (by omega); refine r_par' 20 mixed (by kernel_rfl) (by rfl) ?_; (iterate 4 refine p_q _ rfl rfl rfl (fun _ _ => v_move rfl rfl) ?_); refine p_q _ rfl rfl rfl (fun _ _ => v_indexAddrAn rfl Tryz.underlying154 inf152 rfl rfl (by omega)) ?_; refine p_q _ rfl rfl rfl (fun _ _ => v_indexAddrAn rfl Tryz.underlying152 inf3 rfl rfl (by omega)) ?_; refine p_q _ rfl rfl rfl (fun _ _ => v_ld1 rfl Tryz.underlying3 rfl rfl (tat_cell ((by assumption)) (by omega) (by omega))) ?_; refine p_q _ rfl rfl rfl (fun _ _ => v_move rfl rfl) ?_; refine p_q _ rfl rfl rfl (fun _ _ => v_move rfl rfl) ?_; refine p_q _ rfl rfl rfl (fun _ _ => v_indexAddrAn rfl Tryz.underlying154 inf152 rfl rfl (by omega)) ?_; refine p_q _ rfl rfl rfl (fun _ _ => v_indexAddrAn rfl Tryz.underlying152 inf3 rfl rfl (by omega)) ?_; refine p_q _ rfl rfl rfl (fun _ _ => v_ld1 rfl Tryz.underlying3 rfl rfl (tat_cell ((by assumption)) (by omega) (by omega))) ?_; refine p_q _ rfl rfl rfl (fun _ _ => v_move rfl rfl) ?_; refine p_q _ rfl rfl rfl (fun _ _ => v_move rfl rfl) ?_; refine p_q _ rfl rfl rfl (fun _ _ => v_indexAddrAn rfl Tryz.underlying154 inf152 rfl rfl (by omega)) ?_; refine p_q _ rfl rfl rfl (fun _ _ => v_indexAddrAn rfl Tryz.underlying152 inf3 rfl rfl (by omega)) ?_; refine p_q _ rfl rfl rfl (fun _ _ => v_ld1 rfl Tryz.underlying3 rfl rfl (tat_cell ((by assumption)) (by omega) (by omega))) ?_; refine p_q _ rfl rfl rfl (fun _ _ => v_add rfl rfl rfl (by omega)) ?_; refine p_q _ rfl rfl rfl (fun _ _ => v_min2 rfl rfl rfl) ?_; refine p_q _ rfl rfl rfl (fun _ _ => v_indexAddrAn rfl Tryz.underlying154 inf152 rfl rfl (by omega)) ?_; refine p_nil2 (by simp only [List.nil_append, List.cons_append]; rfl) rfl ?_; (iterate 20 refine f_q rfl ?_); refine f_nil ?_; refine o_q _ rfl rfl rfl (v_indexAddrAn rfl Tryz.underlying152 inf3 rfl rfl (by omega)) ?_; refine o_st (us := [i64 _]) rfl inf3 rfl rfl rfl rfl rfl rfl rfl (cell_ble (by assumption) (by omega) (by omega)) ?_; refine o_nil ?_; refine r_in_normal ?_; refine r_then ?_; refine r_region ?_; refine o_q _ rfl rfl rfl (v_add rfl rfl rfl (by omega)) ?_; refine q_mv rfl rfl rfl rfl rfl ?_; refine o_nil (r_then ?_); refine r_next (k + 1) ?_ ?_ ?_
       ·
        refine Imp.box_to b1 ((fwC (fwR (fw T b) b i) b i (k + 1)).map i64) (by rw [fwC_s]; exact tset_cell) ?_; exact r_here (by repeat (first | exact FSub.nil | refine FSub.cons rfl ?_)) SelMC.sel SubRC.sub
       ·
        omega
       ·
        omega
      ·
       refine r_exit ?_; refine r_then_exit ?_; refine r_then_exit ?_; refine r_in_here ?_; refine r_in_normal ?_; refine r_then ?_; refine r_region ?_; refine o_q _ rfl rfl rfl (v_add rfl rfl rfl (by omega)) ?_; refine q_mv rfl rfl rfl rfl rfl ?_; refine o_nil (r_then ?_); refine r_next (i + 1) ?_ ?_ ?_
       ·
        refine Imp.box_to b1 ((fwR (fw T b) b (i + 1)).map i64) (by rw [show k = 11 by omega, fwR_s]) ?_; exact r_here (by repeat (first | exact FSub.nil | refine FSub.cons rfl ?_)) SelMC.sel SubRC.sub
       ·
        omega
       ·
        omega
    ·
     refine r_exit ?_; refine r_then_exit ?_; refine r_then_exit ?_; refine r_in_here ?_; refine r_in_normal ?_; refine r_then ?_; refine r_region ?_; refine o_q _ rfl rfl rfl (v_add rfl rfl rfl (by omega)) ?_; refine q_mv rfl rfl rfl rfl rfl ?_; refine o_nil (r_then ?_); refine r_next (b + 1) ?_ ?_ ?_
     ·
      refine Imp.box_to b1 ((fw T (b + 1)).map i64) (by rw [show i = 11 by omega, fw_s]) ?_; exact r_here (by repeat (first | exact FSub.nil | refine FSub.cons rfl ?_)) SelMC.sel SubRC.sub
     ·
      omega
     ·
      omega
  ·
   refine r_exit ?_; refine r_then_exit ?_; refine r_then_exit ?_; refine r_in_here ?_; refine r_then (r_seq ?_); refine r_seq ?_; refine Imp.box_to b1 ((fw T 11).map i64) (by rw [show b = 11 by omega]) ?_; refine r_region ?_; refine q_mv rfl rfl rfl rfl rfl ?_; refine o_nil (r_then ?_); refine r_block ?_; refine r_loop (ι := Nat) (fun j => j ≤ 11 ∧ ∀ i, i < j → 0 ≤ tat (fw T 11) i i) (fun j => [(1, pt b1 0), (2, pt b2 0), (3, .bool false), (41, i64 j)]) (fun j => bx b1 154 ((fw T 11).map i64) :: bx b2 154 ((zeroT).map i64) :: M) (fun j => [] ++ Rf) (fun j => 11 - j) 0 ?_ ?_ ?_
   ·
    exact r_here (by repeat (first | exact FSub.nil | refine FSub.cons rfl ?_)) SelMC.sel SubRC.sub
   ·
    exact ⟨Nat.zero_le _, fun i hi => absurd hi (by omega)⟩
   ·
    rintro j hI3; refine r_seq (r_region ?_); refine o_q _ rfl rfl rfl (v_lss rfl rfl rfl) ?_; refine o_nil (r_then (r_seq ?_)); refine r_condd rfl (fun hc42 => ?_) (fun hc42 => ?_)
    ·
     refine r_skip (r_then ?_); refine r_seq (r_block ?_); refine r_seq (r_region ?_); refine q_mv rfl rfl rfl rfl rfl ?_; refine q_as rfl rfl rfl rfl rfl ?_; refine o_nil (r_then (r_seq ?_)); have hl : (fw T 11).length = 121 := by rw [fw_len, hT]
     refine r_region ?_; refine q_mv rfl rfl rfl rfl rfl ?_; refine q_mv rfl rfl rfl rfl rfl ?_; refine o_q _ rfl rfl rfl (v_indexAddrAn rfl Tryz.underlying154 inf152 rfl rfl (by omega)) ?_; refine o_q _ rfl rfl rfl (v_indexAddrAn rfl Tryz.underlying152 inf3 rfl rfl (by omega)) ?_; refine o_q _ rfl rfl rfl (v_ld1 rfl Tryz.underlying3 rfl rfl (tat_cell ((by assumption)) (by omega) (by omega))) ?_; refine o_q _ rfl rfl rfl (v_lss rfl rfl rfl) ?_; refine o_nil (r_then ?_); refine r_condd rfl (fun hc49 => ?_) (fun hc49 => ?_)
     ·
      refine r_seq (r_region ?_); refine o_q _ rfl rfl rfl (v_ldW rfl Tryz.underlying154 rfl inf154 rfl (map_len (by rw [fw_len, hT]))) ?_; refine o_st (us := (fw T 11).map i64) rfl inf154 rfl rfl rfl rfl rfl (map_len (by rw [fw_len, hT])) (oneCells_map _) (whole_ble (by rw [fw_len, hT]) (by first | exact zeroT_len | exact by rw [fw_len, hT])) ?_; refine q_as rfl rfl rfl rfl rfl ?_; refine o_nil (r_then ?_); refine r_ret ?_; (with_reducible refine r_in_ret ?_; refine r_then_ret ?_; refine r_then_ret ?_; refine r_in_ret ?_; refine r_then_ret ?_); refine Imp.box_to b2 ((fw T 11).map i64) (splice_all (by simp only [List.length_map]; rw [zeroT_len, fw_len, hT])) ?_; exact r_retv2 (Rd.two rfl (RdI.cellW Tryz.underlying154 rfl inf154 rfl (map_len (by rw [fw_len, hT]))) (RdI.tmp rfl)) (by rw [show decide (Burst8.Can T) = false from decide_eq_false (fun h => absurd (h j (by omega)) (by omega))]) SelMC.sel SubRC.sub
     ·
      refine r_skip ?_; refine r_in_normal ?_; refine r_then ?_; refine r_region ?_; refine o_q _ rfl rfl rfl (v_add rfl rfl rfl (by omega)) ?_; refine q_mv rfl rfl rfl rfl rfl ?_; refine o_nil (r_then ?_); refine r_next (j + 1) ?_ ?_ ?_
      ·
       exact r_here (by repeat (first | exact FSub.nil | refine FSub.cons rfl ?_)) SelMC.sel SubRC.sub
      ·
       exact ⟨by omega, all_step hI3.2 (by omega)⟩
      ·
       omega
    ·
     refine r_exit ?_; refine r_then_exit ?_; refine r_then_exit ?_; refine r_in_here ?_; refine r_then (r_seq (r_region ?_)); refine o_q _ rfl rfl rfl (v_ldW rfl Tryz.underlying154 rfl inf154 rfl (map_len (by rw [fw_len, hT]))) ?_; refine o_st (us := (fw T 11).map i64) rfl inf154 rfl rfl rfl rfl rfl (map_len (by rw [fw_len, hT])) (oneCells_map _) (whole_ble (by rw [fw_len, hT]) (by first | exact zeroT_len | exact by rw [fw_len, hT])) ?_; refine q_as rfl rfl rfl rfl rfl ?_; refine o_nil (r_then ?_); refine r_ret ?_; refine Imp.box_to b2 ((fw T 11).map i64) (splice_all (by simp only [List.length_map]; rw [zeroT_len, fw_len, hT])) ?_; exact r_retv2 (Rd.two rfl (RdI.cellW Tryz.underlying154 rfl inf154 rfl (map_len (by rw [fw_len, hT]))) (RdI.tmp rfl)) (by rw [show decide (Burst8.Can T) = true from decide_eq_true (fun i hi => hI3.2 i (by omega))]) SelMC.sel SubRC.sub
end Go.Proofs.YtpndeonmmcaikaaGreat.BurstW

set_option linter.unusedVariables false
namespace Burst8
open Go Go.G
theorem pre_at {α : Type} {f g : Nat → List α} (h : ∀ i, f (i + 1) = f i ++ g i) {i : Nat} : ∀ {n : Nat}, i < n → ∃ r, f n = f i ++ (g i ++ r)
  | 0, hn => absurd hn (by omega)
  | n + 1, hn => by
    by_cases e : i = n
    · subst e; exact ⟨[], by rw [h, List.append_nil]⟩
    · obtain ⟨r, hr⟩ := pre_at h (n := n) (i := i) (by omega)
      exact ⟨r ++ g n, by rw [h, hr]; simp only [List.append_assoc]⟩
theorem at_of {α : Type} {l p r : List α} {y : α} (h : l = p ++ (y :: r)) : l[p.length]? = some y ∧ p.length < l.length := by
  subst h; exact ⟨by simp, by simp⟩
section
variable (B : Bog) (m : Nat) (s : Int) (w : Bool)
theorem bsTo_s (i : Nat) : bsTo B (i + 1) = bsTo B i ++ [bB B i] := by simp [bsTo, List.range_succ]
theorem rsTo_s (d : Nat) : rsTo B (d + 1) = rsTo B d ++ [bR B d] := by simp [rsTo, List.range_succ]
theorem ssTo_s (k : Nat) : ssTo B m (k + 1) = ssTo B m k ++ if m.testBit k then [signB (B.signs.getD k default)] else [] := by simp [ssTo, sgTo]
theorem wsTo_s (i : Nat) : wsTo B m s w (i + 1) = wsTo B m s w i ++ vwTo s w i (B.rain.length + 1) := by simp [wsTo, vsTo]
def wdTo (i d : Nat) : List Bnd := wsTo B m s w i ++ vwTo s w i d
theorem wdTo_0 (i : Nat) : wdTo B m s w i 0 = wsTo B m s w i := by simp [wdTo, vwTo]
theorem wdTo_s (i d : Nat) : wdTo B m s w i (d + 1) = wdTo B m s w i d ++ if w = true ∧ (d : Int) ≤ s then [bV i d] else [] := by simp [wdTo, vwTo]
theorem wdTo_all (i : Nat) : wdTo B m s w i (B.rain.length + 1) = wsTo B m s w (i + 1) := (wsTo_s ..).symm
theorem ssTo_0 : ssTo B m 0 = rsTo B B.rain.length := by simp [ssTo, sgTo]
theorem rsTo_0 : rsTo B 0 = bsTo B B.banks.length := by simp [rsTo]
theorem wsTo_0 : wsTo B m s w 0 = ssTo B m B.signs.length := by simp [wsTo, vsTo]
theorem seg1 : ∃ r, boundsL B m s w = ssTo B m B.signs.length ++ r := ⟨_, rfl⟩
theorem seg2 : ∃ r, boundsL B m s w = rsTo B B.rain.length ++ r := by
  obtain ⟨r, h⟩ := seg1 B m s w
  exact ⟨_, by rw [h]; unfold ssTo; rw [List.append_assoc]⟩
theorem seg3 : ∃ r, boundsL B m s w = bsTo B B.banks.length ++ r := by
  obtain ⟨r, h⟩ := seg2 B m s w
  exact ⟨_, by rw [h]; unfold rsTo; rw [List.append_assoc]⟩
theorem at_w : (boundsL B m s w)[0]? = some (bW B) ∧ 0 < (boundsL B m s w).length := by
  obtain ⟨r, h⟩ := seg3 B m s w
  rw [h]; simp [bsTo]
theorem at_b {i : Nat} (hi : i < B.banks.length) : (boundsL B m s w)[(bsTo B i).length]? = some (bB B i) ∧ (bsTo B i).length < (boundsL B m s w).length := by
  obtain ⟨r, h⟩ := seg3 B m s w
  obtain ⟨r2, h2⟩ := pre_at (bsTo_s B) hi
  exact at_of (r := r2 ++ r) (by rw [h, h2]; simp)
theorem at_r {d : Nat} (hd : d < B.rain.length) : (boundsL B m s w)[(rsTo B d).length]? = some (bR B d) ∧ (rsTo B d).length < (boundsL B m s w).length := by
  obtain ⟨r, h⟩ := seg2 B m s w
  obtain ⟨r2, h2⟩ := pre_at (rsTo_s B) hd
  exact at_of (r := r2 ++ r) (by rw [h, h2]; simp)
theorem at_s {k : Nat} (hk : k < B.signs.length) (ht : m.testBit k = true) : (boundsL B m s w)[(ssTo B m k).length]? = some (signB (B.signs.getD k default)) ∧ (ssTo B m k).length < (boundsL B m s w).length := by
  obtain ⟨r, h⟩ := seg1 B m s w
  obtain ⟨r2, h2⟩ := pre_at (ssTo_s B m) hk
  rw [if_pos ht] at h2
  exact at_of (r := r2 ++ r) (by rw [h, h2]; simp)
theorem at_v {i d : Nat} (hi : i < B.banks.length) (hd : d ≤ B.rain.length) (hw : w = true ∧ (d : Int) ≤ s) : (boundsL B m s w)[(wdTo B m s w i d).length]? = some (bV i d) ∧ (wdTo B m s w i d).length < (boundsL B m s w).length := by
  obtain ⟨r, h⟩ := pre_at (wsTo_s B m s w) hi
  obtain ⟨r2, h2⟩ := pre_at (wdTo_s B m s w i) (show d < B.rain.length + 1 by omega)
  rw [if_pos hw] at h2
  have e : wsTo B m s w i ++ (vwTo s w i (B.rain.length + 1) ++ r) = wdTo B m s w i (B.rain.length + 1) ++ r := by unfold wdTo; rw [List.append_assoc]
  exact at_of (r := r2 ++ r) (by show wsTo B m s w B.banks.length = _; rw [h, e, h2]; simp)
theorem len_b (i : Nat) : (bsTo B i).length + 1 = (bsTo B (i + 1)).length := by rw [bsTo_s]; simp
theorem len_r (d : Nat) : (rsTo B d).length + 1 = (rsTo B (d + 1)).length := by rw [rsTo_s]; simp
theorem len_s {k : Nat} (h : m.testBit k = true) : (ssTo B m k).length + 1 = (ssTo B m (k + 1)).length := by rw [ssTo_s, if_pos h]; simp
theorem len_sn {k : Nat} (h : ¬ m.testBit k = true) : (ssTo B m k).length = (ssTo B m (k + 1)).length := by rw [ssTo_s, if_neg h]; simp
theorem len_v {i d : Nat} (h : w = true ∧ (d : Int) ≤ s) : (wdTo B m s w i d).length + 1 = (wdTo B m s w i (d + 1)).length := by rw [wdTo_s, if_pos h]; simp
theorem len_vn {i d : Nat} (h : ¬ (w = true ∧ (d : Int) ≤ s)) : (wdTo B m s w i d).length = (wdTo B m s w i (d + 1)).length := by rw [wdTo_s, if_neg h]; simp
end
theorem signB_in {B : Bog} (hg : GoodB B) {x : Sign} (h : SignOk B x) : InT (signB x) := by
  have h1 := hg.nb; have h2 := hg.nr
  obtain ⟨hd, hk⟩ := h
  unfold signB
  split
  · exact ⟨by show 1 + _ < 11; omega, by show 5 + _ < 11; omega, by show -65536 ≤ (0 : Int) ∧ (0 : Int) ≤ 65536; omega, by show -65536 ≤ (10 : Int) ∧ (10 : Int) ≤ 65536; omega⟩
  split
  · exact ⟨by show 1 + _ < 11; omega, by show 5 + _ < 11; omega, by show -65536 ≤ (0 : Int) ∧ (0 : Int) ≤ 65536; omega, by show -65536 ≤ (5 : Int) ∧ (5 : Int) ≤ 65536; omega⟩
  · exact ⟨by show 5 + _ < 11; omega, by show 0 < 11; omega, by show -65536 ≤ (15 : Int) ∧ (15 : Int) ≤ 65536; omega, by show -65536 ≤ (65536 : Int) ∧ (65536 : Int) ≤ 65536; omega⟩
theorem bW_in {B : Bog} (hg : GoodB B) : InT (bW B) := by
  have h := hg.w
  exact ⟨by show 5 < 11; omega, by show 0 < 11; omega, by show -65536 ≤ B.wlo ∧ B.wlo ≤ 65536; omega, by show -65536 ≤ B.whi ∧ B.whi ≤ 65536; omega⟩
theorem bB_in {B : Bog} (hg : GoodB B) {i : Nat} (hi : i < B.banks.length) : InT (bB B i) := by
  have h := hg.banks i hi; have h1 := hg.nb
  obtain ⟨ha, hb⟩ := h
  exact ⟨by show 1 + i < 11; omega, by show 0 < 11; omega, by show -65536 ≤ _ - _ ∧ _ - _ ≤ (65536 : Int); omega, by show -65536 ≤ _ - _ ∧ _ - _ ≤ (65536 : Int); omega⟩
theorem bR_in {B : Bog} (hg : GoodB B) {d : Nat} (hd : d < B.rain.length) : InT (bR B d) := by
  have h := hg.rain d hd; have h1 := hg.nr; have h2 := hg.dr
  obtain ⟨ha, hb, hc⟩ := h
  exact ⟨by show 5 + d + 1 < 11; omega, by show 5 + d < 11; omega, by show -65536 ≤ _ - _ ∧ _ - _ ≤ (65536 : Int); omega, by show -65536 ≤ _ - _ ∧ _ - _ ≤ (65536 : Int); omega⟩
theorem bV_in {i d : Nat} (hi : i < 4) (hd : d ≤ 5) : InT (bV i d) :=
  ⟨by show 1 + i < 11; omega, by show 5 + d < 11; omega, by show -65536 ≤ (0 : Int) ∧ (0 : Int) ≤ 65536; omega, by show -65536 ≤ (65536 : Int) ∧ (65536 : Int) ≤ 65536; omega⟩
theorem mem_sgTo {B : Bog} {m : Nat} {x : Bnd} : ∀ {k : Nat}, x ∈ sgTo B m k ↔ ∃ j, j < k ∧ m.testBit j = true ∧ x = signB (B.signs.getD j default)
  | 0 => by simp [sgTo]
  | k + 1 => by
    unfold sgTo
    rw [List.mem_append, mem_sgTo (k := k)]
    constructor
    · rintro (⟨j, h1, h2, h3⟩ | h)
      · exact ⟨j, by omega, h2, h3⟩
      · split at h
        · exact ⟨k, by omega, by assumption, by simpa using h⟩
        · cases h
    · rintro ⟨j, h1, h2, h3⟩
      by_cases e : j = k
      · subst e; right; rw [if_pos h2]; simp [h3]
      · exact .inl ⟨j, by omega, h2, h3⟩
theorem mem_vwTo {s : Int} {w : Bool} {i : Nat} {x : Bnd} : ∀ {d : Nat}, x ∈ vwTo s w i d ↔ ∃ j, j < d ∧ (w = true ∧ (j : Int) ≤ s) ∧ x = bV i j
  | 0 => by simp [vwTo]
  | k + 1 => by
    unfold vwTo
    rw [List.mem_append, mem_vwTo (d := k)]
    constructor
    · rintro (⟨j, h1, h2, h3⟩ | h)
      · exact ⟨j, by omega, h2, h3⟩
      · split at h
        · exact ⟨k, by omega, by assumption, by simpa using h⟩
        · cases h
    · rintro ⟨j, h1, h2, h3⟩
      by_cases e : j = k
      · subst e; right; rw [if_pos h2]; simp [h3]
      · exact .inl ⟨j, by omega, h2, h3⟩
theorem mem_vsTo {n : Nat} {s : Int} {w : Bool} {x : Bnd} : ∀ {i : Nat}, x ∈ vsTo n s w i ↔ ∃ k, k < i ∧ ∃ j, j < n + 1 ∧ (w = true ∧ (j : Int) ≤ s) ∧ x = bV k j
  | 0 => by simp [vsTo]
  | i + 1 => by
    unfold vsTo
    rw [List.mem_append, mem_vsTo (i := i), mem_vwTo]
    constructor
    · rintro (⟨k, h1, h2⟩ | h)
      · exact ⟨k, by omega, h2⟩
      · exact ⟨i, by omega, h⟩
    · rintro ⟨k, h1, h2⟩
      by_cases e : k = i
      · subst e; exact .inr h2
      · exact .inl ⟨k, by omega, h2⟩
theorem mem_bounds {B : Bog} {m : Nat} {s : Int} {w : Bool} {x : Bnd} : x ∈ boundsL B m s w ↔ x = bW B ∨ (∃ i, i < B.banks.length ∧ x = bB B i) ∨ (∃ d, d < B.rain.length ∧ x = bR B d) ∨ (∃ j, j < B.signs.length ∧ m.testBit j = true ∧ x = signB (B.signs.getD j default)) ∨ (∃ k, k < B.banks.length ∧ ∃ j, j < B.rain.length + 1 ∧ (w = true ∧ (j : Int) ≤ s) ∧ x = bV k j) := by
  unfold boundsL wsTo ssTo rsTo bsTo
  simp only [List.mem_append, List.mem_cons, List.mem_map, List.mem_range, mem_sgTo, mem_vsTo]
  constructor
  · rintro ((((h | ⟨i, h, rfl⟩) | ⟨d, h, rfl⟩) | h) | h)
    · exact .inl h
    · exact .inr (.inl ⟨i, h, rfl⟩)
    · exact .inr (.inr (.inl ⟨d, h, rfl⟩))
    · exact .inr (.inr (.inr (.inl h)))
    · exact .inr (.inr (.inr (.inr h)))
  · rintro (h | ⟨i, h, rfl⟩ | ⟨d, h, rfl⟩ | h | h)
    · exact .inl (.inl (.inl (.inl h)))
    · exact .inl (.inl (.inl (.inr ⟨i, h, rfl⟩)))
    · exact .inl (.inl (.inr ⟨d, h, rfl⟩))
    · exact .inl (.inr h)
    · exact .inr h
theorem bounds_in {B : Bog} (hg : GoodB B) {m : Nat} {s : Int} {w : Bool} : ∀ x ∈ boundsL B m s w, InT x := fun x hx => by
  rcases mem_bounds.1 hx with rfl | ⟨i, hi, rfl⟩ | ⟨d, hd, rfl⟩ | ⟨j, hj, _, rfl⟩ | ⟨k, hk, j, hj, _, rfl⟩
  · exact bW_in hg
  · exact bB_in hg hi
  · exact bR_in hg hd
  · exact signB_in hg (hg.signs j hj)
  · have h1 := hg.nb; have h2 := hg.nr
    exact bV_in (by omega) (by omega)
def tabB (B : Bog) (m : Nat) (s : Int) (w : Bool) : Tab := tabOf (boundsL B m s w)
theorem tabB_len (B : Bog) (m : Nat) (s : Int) (w : Bool) : (tabB B m s w).length = 121 := tabOf_len _
theorem tabB_in {B : Bog} (hg : GoodB B) {m : Nat} {s : Int} {w : Bool} : TIn (tabB B m s w) 65536 := tabOf_in (bounds_in hg)
def knownT (B : Bog) (m : Nat) (s : Int) (w : Bool) : Tab := fw (tabB B m s w) 11
def canB (B : Bog) (m : Nat) (s : Int) (w : Bool) : Bool := decide (Burst8.Can (tabB B m s w))
theorem knownT_len (B : Bog) (m : Nat) (s : Int) (w : Bool) : (knownT B m s w).length = 121 := by unfold knownT; rw [fw_len, tabB_len]
theorem knownT_bd {B : Bog} (hg : GoodB B) {m : Nat} {s : Int} {w : Bool} {i k : Nat} (hi : i < 11) (hk : k < 11) : -1000000000000000 ≤ tat (knownT B m s w) i k ∧ tat (knownT B m s w) i k ≤ 65536 := by
  have h := fw_low (tabB_len B m s w) (tabB_in hg) 11 (Nat.le_refl _) i hi k hk
  have h4 : lowB 11 = 23776267862016 := by decide
  unfold knownT; omega
end Burst8

set_option linter.unusedVariables false
set_option linter.unusedSimpArgs false
namespace Go.G
variable {P : Program} {W : World} {n : Nat} {D : List Deferred} {L : Tm} {M : List Res} {R : List Fact} {Q : Exit → Act → World → Prop} {o : Oper}
theorem u64_small {a : Nat} (h : a < 2 ^ 62) : IntKind.wrap .u64 (a : Int) = (a : Int) := IntWalk.u64_in _ (by omega)
theorem v_shlU {t u : TypeId} {x y : Operand} {h m : Nat} (ho : o.op = .binOp .shl t x y u) (hx : ev L x = some (.int .u64 1)) (hy : ev L y = some (.int .i64 (h : Int))) (hh : h < 62) (hm : m = 2 ^ h) : OpQ P W n L M R o (.int .u64 (m : Int)) :=
  OpQ.of_value fun f w h1 _ => by
    have h2 : ¬ ((h : Int) < 0) := by omega
    have h3 : min h 64 = h := by omega
    have h4 : (2 : Nat) ^ h ≤ 2 ^ 61 := Nat.pow_le_pow_right (by omega) (by omega)
    have hw : IntKind.wrap .u64 (m : Int) = (m : Int) := u64_small (by rw [hm]; omega)
    have e : (1 : Int) * 2 ^ (min (h : Int).toNat IntKind.u64.bits) = (m : Int) := by
      rw [show (h : Int).toNat = h from by simp, show IntKind.u64.bits = 64 from rfl, h3, hm]
      simp
    have hs : (Op.shift .shl .u64 1 .i64 (h : Int)).run P w = .ok (.int .u64 (m : Int)) w := by
      unfold Op.shift
      rw [if_neg h2]
      simp only [e, hw, Sem.run_pure]
    have hb : (binOp .shl t (.int .u64 1) (.int .i64 (h : Int))).run P w = .ok (.int .u64 (m : Int)) w := hs
    simp [execOp, ho, h1.ev hx, h1.ev hy, eqGuard, hb]
theorem v_shrU {t u : TypeId} {x y : Operand} {a h : Nat} (ho : o.op = .binOp .shr t x y u) (hx : ev L x = some (.int .u64 (a : Int))) (hy : ev L y = some (.int .i64 (h : Int))) (ha : a < 2 ^ 62) (hh : h < 62) : OpQ P W n L M R o (.int .u64 ((a >>> h : Nat) : Int)) :=
  OpQ.of_value fun f w h1 _ => by
    have hle : a >>> h ≤ a := Nat.shiftRight_le a h
    have hw : IntKind.wrap .u64 ((a >>> h : Nat) : Int) = ((a >>> h : Nat) : Int) := u64_small (by omega)
    have h2 : ¬ ((h : Int) < 0) := by omega
    have h3 : min h 64 = h := by omega
    have hs : (Op.shift .shr .u64 (a : Int) .i64 (h : Int)).run P w = .ok (.int .u64 ((a >>> h : Nat) : Int)) w := by
      unfold Op.shift
      rw [if_neg h2]
      have e : ((a : Int).fdiv (2 ^ (min (h : Int).toNat IntKind.u64.bits))) = ((a >>> h : Nat) : Int) := by
        rw [show (h : Int).toNat = h from by simp, show IntKind.u64.bits = 64 from rfl, h3, Nat.shiftRight_eq_div_pow, Int.fdiv_eq_ediv_of_nonneg _ (by exact Int.le_of_lt (Int.pow_pos (by decide)))]
        simp
      simp only [e, hw, Sem.run_pure]
    have hb : (binOp .shr t (.int .u64 (a : Int)) (.int .i64 (h : Int))).run P w = .ok (.int .u64 ((a >>> h : Nat) : Int)) w := hs
    simp [execOp, ho, h1.ev hx, h1.ev hy, eqGuard, hb]
theorem v_andU {t u : TypeId} {x y : Operand} {a b : Nat} (ho : o.op = .binOp .and t x y u) (hx : ev L x = some (.int .u64 (a : Int))) (hy : ev L y = some (.int .u64 (b : Int))) (ha : a < 2 ^ 62) (hb : b < 2 ^ 62) : OpQ P W n L M R o (.int .u64 ((a &&& b : Nat) : Int)) :=
  OpQ.of_value fun f w h1 _ => by
    have hlt : a &&& b ≤ a := Nat.and_le_left
    have hw : IntKind.wrap .u64 ((a &&& b : Nat) : Int) = ((a &&& b : Nat) : Int) := u64_small (by omega)
    have hs : (Op.intBits .and .u64 (a : Int) (b : Int)).run P w = .ok (.int .u64 ((a &&& b : Nat) : Int)) w := by
      unfold Op.intBits
      have e1 : (BitVec.ofInt IntKind.u64.bits (a : Int) &&& BitVec.ofInt IntKind.u64.bits (b : Int)).toNat = a &&& b := by
        have h64 : IntKind.u64.bits = 64 := rfl
        rw [BitVec.toNat_and]
        simp only [BitVec.ofInt_natCast, BitVec.toNat_ofNat, h64]
        rw [Nat.mod_eq_of_lt (by omega), Nat.mod_eq_of_lt (by omega)]
      simp only [e1, hw, Sem.run_pure]
    have hb2 : (binOp .and t (.int .u64 (a : Int)) (.int .u64 (b : Int))).run P w = .ok (.int .u64 ((a &&& b : Nat) : Int)) w := hs
    simp [execOp, ho, h1.ev hx, h1.ev hy, eqGuard, hb2]
theorem v_subU {t u : TypeId} {x y : Operand} {a b : Int} (ho : o.op = .binOp .sub t x y u) (hx : ev L x = some (.int .u64 a)) (hy : ev L y = some (.int .u64 b)) (h : 0 ≤ a - b ∧ a - b ≤ 18446744073709551615) : OpQ P W n L M R o (.int .u64 (a - b)) :=
  OpQ.of_value fun f w h1 _ => by simp [execOp, ho, h1.ev hx, h1.ev hy, eqGuard, binOp, Op.intArith, IntWalk.u64_in _ h]
theorem FnC.introM {k : FuncId} {args : List Value} {r r' : Res} {R0 : List Fact} {v : Value} {fn : Func} {c : Code} (he : ∀ (ag : Array Value) (w : World), (callFunc k ag).run P w = .ok (.enter k ag) w)
    (hf : P.funcs[k]? = some fn) (hb : fn.body = some c) (hn : fn.ntmps = n) (ha : Nat.ble args.length n = true)
    (h : ∀ W Mf Rf, Imp W n [] (argsL args 0) (r :: Mf) (R0 ++ Rf) (c.wp P (bodyPostM Fence.wide 0 P fn (RetE W Mf (R0 ++ Rf) (fun e M' R' => e = .returned v ∧ M' = [r'] ∧ R' = []))))) : FnC P k args r R0 v r' := by
  refine ⟨he, fun W M Rf w hw => (callsIn_wide (n := 0)).1 (callsIn_of_wp_marks hf hb trivial (wpIn_wide.2 ?_))⟩
  rw [hn]
  exact h W M Rf _ w (FSat.entry (Nat.le_of_ble_eq_true ha)) rfl hw
theorem m_rete {db : Nat} {fn : Func} {v : Value} {Mf M1 : List Res} {R0 : List Fact} {Post : Ending → List Res → List Fact → Prop} (M' : List Res) (R' : List Fact) [hM : DelC M (bl db (.deferred (some []))) M1] (hr : Rd P W n L M1 R fn v) (hp : Post (.returned v) M' R') (hS : SelM M1 (M' ++ Mf)) (hR : SubR R (R' ++ R0)) :
    Imp W n [mark db] L M R (bodyPostM Fence.wide 0 P fn (RetE W Mf R0 Post) .ret) :=
  leaves_mark hr (fun _ h => ⟨M', R', hp, (h.sel hS).weak hR⟩)
theorem FnM.of_memo {k : FuncId} {kt : TypeId} {ok : Value → Value → Prop} {b : Nat} {kv v : Value} {args : List Value} {R0 : List Fact} (hy : FnC P k args (memoH P kt ok b kv true) R0 v (memo P kt ok b)) (hn : FnC P k args (memoH P kt ok b kv false) R0 v (memo P kt ok b)) : FnM P k args (memo P kt ok b) R0 (fun u => u = v) := by
  refine ⟨hy.enter, fun W M Rf w hw => ?_⟩
  obtain ⟨s, ⟨s1, s2, rfl, ⟨es, clock, rfl, hall⟩, hS⟩, hO, hR⟩ := hw.mem
  have fin : ∀ {e : Ending} {w' : World}, (∃ M' R', (e = .returned v ∧ M' = [memo P kt ok b] ∧ R' = []) ∧ St W (M' ++ M) (R' ++ (R0 ++ Rf)) w') → ∃ v', e = .returned v' ∧ v' = v ∧ St W (memo P kt ok b :: M) (R0 ++ Rf) w' := by
    rintro e w' ⟨M', R', ⟨he, rfl, rfl⟩, h⟩
    exact ⟨v, he, rfl, h⟩
  by_cases hx : ∃ e ∈ es.toList, e.key = kv
  · exact (hy.calls W M Rf w ⟨hw.os, hw.tape, hw.output, _, ⟨_, s2, rfl, ⟨es, clock, rfl, hall, fun _ => hx, fun h => (by cases h)⟩, hS⟩, hO, hR⟩).mono fun e w' h => fin h
  · exact (hn.calls W M Rf w ⟨hw.os, hw.tape, hw.output, _, ⟨_, s2, rfl, ⟨es, clock, rfl, hall, fun h => (by cases h), fun _ e he hk => hx ⟨e, he, hk⟩⟩, hS⟩, hO, hR⟩).mono fun e w' h => fin h
end Go.G

namespace Go.Proofs.YtpndeonmmcaikaaGreat.BurstW
open Go.G Burst8
set_option maxRecDepth 1000000
attribute [local irreducible] G.ParO G.Fin
theorem laid0 : laidOutB Tryz.prog = true := by kernel_rfl
theorem keyLaw93 : WideMaps.KeyLaw Tryz.prog 233 := deep_law_gate laid0 (by decide +kernel) (by decide +kernel) (by kernel_rfl) (by kernel_rfl)
@[reducible] def keyV (m : Nat) (s : Int) (w : Bool) : Value := .agg #[u64 m, i64 s, .bool w]
theorem key_of {m : Nat} {s : Int} {w : Bool} (hm : m < 2 ^ 62) (hs : -1000 ≤ s ∧ s ≤ 1000) : ∃ l, keyOf Tryz.prog 233 (keyV m s w) = some l := by
  have h1 := Tryz.underlying233
  unfold keyOf
  rw [h1]
  have h2 : Tryz.prog.keyType 233 = true := by kernel_rfl
  have h3 : (keyV m s w).formed Tryz.prog 233 = true := by cases w <;> kernel_rfl
  have c93 : Tryz.prog.cellsOf 233 = 3 := by kernel_rfl
  have c90 : Tryz.prog.cellsOf 116 = 1 := by kernel_rfl
  have c3 : Tryz.prog.cellsOf 3 = 1 := by kernel_rfl
  have c4 : Tryz.prog.cellsOf 4 = 1 := by kernel_rfl
  have kl3 : ∀ d, Tryz.prog.keyLits (d + 1) 3 [i64 s] = some [.int .i64 s] := fun d => by
    have hw : (Lit.int .i64 s).wf = true := by
      have m1 : IntKind.i64.min = -9223372036854775808 := rfl
      have m2 : IntKind.i64.max = 9223372036854775807 := rfl
      simp only [Lit.wf]
      simp
      omega
    unfold Program.keyLits
    rw [Tryz.underlying3]
    simp [hw]
  have kl90 : ∀ d, Tryz.prog.keyLits (d + 1) 116 [u64 m] = some [.int .u64 m] := fun d => by
    have hw : (Lit.int .u64 m).wf = true := by
      have m1 : IntKind.u64.min = 0 := rfl
      have m2 : IntKind.u64.max = 18446744073709551615 := rfl
      simp only [Lit.wf]
      simp
      omega
    unfold Program.keyLits
    rw [Tryz.underlying116]
    simp [hw]
  have kl4 : ∀ d, Tryz.prog.keyLits (d + 1) 4 [.bool w] = some [.bool w] := fun d => by
    unfold Program.keyLits
    rw [Tryz.underlying4]
  have e93 : Tryz.prog.keyLits (Tryz.prog.types.size + 1) 233 (keyV m s w).cells.toList = some [.int .u64 m, .int .i64 s, .bool w] := by
    have hsz : Tryz.prog.types.size + 1 = 380 + 2 := by kernel_rfl
    rw [hsz]
    unfold Program.keyLits
    rw [Tryz.underlying233]
    simp [c93, c90, c3, c4, Value.cells, kl3, kl90, kl4]
  rw [e93, h2, h3]
  exact ⟨_, rfl⟩
variable (B : Bog) (bo ro so : Option Addr) (bc rc sc : Nat) (bb mb : Nat)
set_option maxHeartbeats 4000000 in
theorem isDay_m (d : Int) : FnM Tryz.prog 87 [pt bb 0, i64 d] (bx bb 230 [.slice bo B.banks.length bc, i64 B.wlo, i64 B.whi, .slice ro B.rain.length rc, i64 B.drain, .slice so B.signs.length sc, .map (some mb)]) [] (fun u => u = .bool (decide (0 ≤ d ∧ d ≤ (B.rain.length : Int)))) := by
 refine FnM.intro Tryz.call87 Tryz.func87 rfl Tryz.ntmps87 rfl ?_; intro W M Rf; refine r_seq (r_region ?_); refine q_as rfl rfl rfl rfl rfl ?_; refine o_nil (r_then (r_seq (r_region ?_))); refine q_mv rfl rfl rfl rfl rfl ?_; refine q_mv rfl rfl rfl rfl rfl ?_; refine o_q _ rfl rfl rfl (v_nilCheck rfl rfl) ?_; refine o_q _ rfl rfl rfl (v_fieldAddr rfl Tryz.underlying230 inf66 rfl rfl rfl rfl) ?_; refine o_q _ rfl rfl rfl (v_fieldAddr rfl Tryz.underlying66 inf59 rfl rfl rfl rfl) ?_; refine o_q _ rfl rfl rfl (v_ld1 rfl Tryz.underlying59 rfl rfl rfl) ?_; refine o_q _ rfl rfl rfl (v_len rfl rfl Tryz.underlying59 rfl) ?_; refine o_q _ rfl rfl rfl (OpQ.fn (within_v _ _ _) rfl rfl SubRC.sub) ?_; refine q_as rfl rfl rfl rfl rfl ?_; refine o_nil (r_then ?_); refine r_ret ?_; exact r_retm (Rd.tmp rfl rfl) (by first | rfl | exact congrArg Value.bool (decide_eq_decide.2 (by omega))) SelMC.sel SubRC.sub
set_option maxHeartbeats 4000000 in
theorem isBank_m (d : Int) (hn : B.banks.length ≤ 1000) : FnM Tryz.prog 80 [pt bb 0, i64 d] (bx bb 230 [.slice bo B.banks.length bc, i64 B.wlo, i64 B.whi, .slice ro B.rain.length rc, i64 B.drain, .slice so B.signs.length sc, .map (some mb)]) [] (fun u => u = .bool (decide (0 ≤ d ∧ d ≤ (B.banks.length : Int) - 1))) := by
 refine FnM.intro Tryz.call80 Tryz.func80 rfl Tryz.ntmps80 rfl ?_; intro W M Rf; refine r_seq (r_region ?_); refine q_as rfl rfl rfl rfl rfl ?_; refine o_nil (r_then (r_seq (r_region ?_))); refine q_mv rfl rfl rfl rfl rfl ?_; refine q_mv rfl rfl rfl rfl rfl ?_; refine o_q _ rfl rfl rfl (v_nilCheck rfl rfl) ?_; refine o_q _ rfl rfl rfl (v_fieldAddr rfl Tryz.underlying230 inf66 rfl rfl rfl rfl) ?_; refine o_q _ rfl rfl rfl (v_fieldAddr rfl Tryz.underlying66 inf63 rfl rfl rfl rfl) ?_; refine o_q _ rfl rfl rfl (v_ld1 rfl Tryz.underlying63 rfl rfl rfl) ?_; refine o_q _ rfl rfl rfl (v_len rfl rfl Tryz.underlying63 rfl) ?_; refine o_q _ rfl rfl rfl (v_sub rfl rfl rfl (by omega)) ?_; refine o_q _ rfl rfl rfl (OpQ.fn (within_v _ _ _) rfl rfl SubRC.sub) ?_; refine q_as rfl rfl rfl rfl rfl ?_; refine o_nil (r_then ?_); refine r_ret ?_; exact r_retm (Rd.tmp rfl rfl) (by first | rfl | exact congrArg Value.bool (decide_eq_decide.2 (by omega))) SelMC.sel SubRC.sub
set_option maxHeartbeats 4000000 in
theorem day59_m (d : Int) (c : Nat) : FnM Tryz.prog 86 [pt bb 0, pt c 0] (bx bb 230 [.slice bo B.banks.length bc, i64 B.wlo, i64 B.whi, .slice ro B.rain.length rc, i64 B.drain, .slice so B.signs.length sc, .map (some mb)]) [boxF c 3 [i64 d]] (fun u => u = .bool (decide (0 ≤ d ∧ d ≤ (B.rain.length : Int)))) := by
 refine FnM.intro Tryz.call86 Tryz.func86 rfl Tryz.ntmps86 rfl ?_; intro W M Rf; refine r_seq (r_region ?_); refine q_as rfl rfl rfl rfl rfl ?_; refine o_nil (r_then (r_seq (r_region ?_))); refine q_mv rfl rfl rfl rfl rfl ?_; refine o_q _ rfl rfl rfl (v_lf1 rfl Tryz.underlying3 rfl rfl rfl) ?_; refine o_q _ rfl rfl rfl (OpQ.fnm (isDay_m B bo ro so bc rc sc bb mb d) rfl [] [] rfl rfl rfl SubRC.sub) ?_; refine q_as rfl rfl rfl rfl rfl ?_; refine o_nil (r_then ?_); refine r_ret ?_; exact r_retm (Rd.tmp rfl rfl) (by first | rfl | exact congrArg Value.bool (decide_eq_decide.2 (by omega))) SelMC.sel SubRC.sub
set_option maxHeartbeats 4000000 in
theorem day72_m (d : Int) (c : Nat) : FnM Tryz.prog 89 [pt bb 0, pt c 0] (bx bb 230 [.slice bo B.banks.length bc, i64 B.wlo, i64 B.whi, .slice ro B.rain.length rc, i64 B.drain, .slice so B.signs.length sc, .map (some mb)]) [boxF c 3 [i64 d]] (fun u => u = .bool (decide (0 ≤ d ∧ d ≤ (B.rain.length : Int)))) := by
 refine FnM.intro Tryz.call89 Tryz.func89 rfl Tryz.ntmps89 rfl ?_; intro W M Rf; refine r_seq (r_region ?_); refine q_as rfl rfl rfl rfl rfl ?_; refine o_nil (r_then (r_seq (r_region ?_))); refine q_mv rfl rfl rfl rfl rfl ?_; refine o_q _ rfl rfl rfl (v_lf1 rfl Tryz.underlying3 rfl rfl rfl) ?_; refine o_q _ rfl rfl rfl (OpQ.fnm (isDay_m B bo ro so bc rc sc bb mb d) rfl [] [] rfl rfl rfl SubRC.sub) ?_; refine q_as rfl rfl rfl rfl rfl ?_; refine o_nil (r_then ?_); refine r_ret ?_; exact r_retm (Rd.tmp rfl rfl) (by first | rfl | exact congrArg Value.bool (decide_eq_decide.2 (by omega))) SelMC.sel SubRC.sub
set_option maxHeartbeats 4000000 in
theorem bank61_m (d : Int) (c : Nat) (hn : B.banks.length ≤ 1000) : FnM Tryz.prog 79 [pt bb 0, pt c 0] (bx bb 230 [.slice bo B.banks.length bc, i64 B.wlo, i64 B.whi, .slice ro B.rain.length rc, i64 B.drain, .slice so B.signs.length sc, .map (some mb)]) [boxF c 3 [i64 d]] (fun u => u = .bool (decide (0 ≤ d ∧ d ≤ (B.banks.length : Int) - 1))) := by
 refine FnM.intro Tryz.call79 Tryz.func79 rfl Tryz.ntmps79 rfl ?_; intro W M Rf; refine r_seq (r_region ?_); refine q_as rfl rfl rfl rfl rfl ?_; refine o_nil (r_then (r_seq (r_region ?_))); refine q_mv rfl rfl rfl rfl rfl ?_; refine o_q _ rfl rfl rfl (v_lf1 rfl Tryz.underlying3 rfl rfl rfl) ?_; refine o_q _ rfl rfl rfl (OpQ.fnm (isBank_m B bo ro so bc rc sc bb mb d hn) rfl [] [] rfl rfl rfl SubRC.sub) ?_; refine q_as rfl rfl rfl rfl rfl ?_; refine o_nil (r_then ?_); refine r_ret ?_; exact r_retm (Rd.tmp rfl rfl) (by first | rfl | exact congrArg Value.bool (decide_eq_decide.2 (by omega))) SelMC.sel SubRC.sub
set_option maxHeartbeats 4000000 in
theorem always_m  : FnM Tryz.prog 84 [pt bb 0] (bx bb 230 [.slice bo B.banks.length bc, i64 B.wlo, i64 B.whi, .slice ro B.rain.length rc, i64 B.drain, .slice so B.signs.length sc, .map (some mb)]) [] (fun u => u = .bool true) := by
 refine FnM.intro Tryz.call84 Tryz.func84 rfl Tryz.ntmps84 rfl ?_; intro W M Rf; refine r_seq (r_region ?_); refine q_as rfl rfl rfl rfl rfl ?_; refine o_nil (r_then (r_seq (r_region ?_))); refine q_as rfl rfl rfl rfl rfl ?_; refine o_nil (r_then ?_); refine r_ret ?_; exact r_retm (Rd.tmp rfl rfl) (by first | rfl | exact congrArg Value.bool (decide_eq_decide.2 (by omega))) SelMC.sel SubRC.sub
set_option maxHeartbeats 4000000 in
theorem every_v (hn : B.signs.length ≤ 5) : FnV Tryz.prog 136 [pt bb 0] [boxF bb 230 [.slice bo B.banks.length bc, i64 B.wlo, i64 B.whi, .slice ro B.rain.length rc, i64 B.drain, .slice so B.signs.length sc, .map (some mb)], rowD bo 4 encB B.banks, rowD ro 2 encS B.rain, rowD so 3 encG B.signs] (u64 (2 ^ B.signs.length - 1 : Nat)) := by
 refine FnV.intro Tryz.call136 Tryz.func136 rfl Tryz.ntmps136 rfl ?_; intro W M Rf; refine r_seq (r_region ?_); refine q_as rfl rfl rfl rfl rfl ?_; refine o_nil (r_then (r_seq (r_region ?_))); refine q_mv rfl rfl rfl rfl rfl ?_; refine o_q _ rfl rfl rfl (v_nilCheck rfl rfl) ?_; refine o_q _ rfl rfl rfl (v_fieldAddr rfl Tryz.underlying230 inf66 rfl rfl rfl rfl) ?_; refine o_q _ rfl rfl rfl (v_fieldAddr rfl Tryz.underlying66 inf64 rfl rfl rfl rfl) ?_; refine o_q _ rfl rfl rfl (v_lf1 rfl Tryz.underlying64 rfl rfl rfl) ?_; refine o_q _ rfl rfl rfl (v_len rfl rfl Tryz.underlying64 rfl) ?_; refine o_q _ rfl rfl rfl (v_shlU rfl rfl rfl (by omega) rfl) ?_; refine o_q _ rfl rfl rfl (v_subU rfl rfl rfl (by have h := Nat.pow_le_pow_right (show 0 < 2 by decide) hn; have h2 := Nat.one_le_two_pow (n := B.signs.length); omega)) ?_; refine q_as rfl rfl rfl rfl rfl ?_; refine o_nil (r_then ?_); refine r_ret ?_; exact r_retv2 (Rd.tmp rfl rfl) (congrArg (Value.int .u64) (by have h2 := Nat.one_le_two_pow (n := B.signs.length); omega)) SelMC.sel SubRC.sub
set_option maxHeartbeats 4000000 in
theorem wet_v (d : Int) (hd : -1000 ≤ d ∧ d ≤ 1000) : FnV Tryz.prog 237 [.agg #[i64 d]] [] (.agg #[i64 (5 + d), i64 0, i64 15, i64 65536]) := by
 refine FnV.intro Tryz.call237 Tryz.func237 rfl Tryz.ntmps237 rfl ?_; intro W M Rf; refine r_seq (r_region ?_); refine o_boxA rfl rfl rfl rfl rfl (fun b1 => ?_); refine o_alloc rfl inf291 rfl rfl rfl rfl rfl (fun b2 => ?_); refine o_nil (r_then (r_seq (r_region ?_))); refine o_q _ rfl rfl rfl (v_fieldAddr rfl Tryz.underlying352 inf3 rfl rfl rfl rfl) ?_; refine o_q _ rfl rfl rfl (v_ld1 rfl Tryz.underlying3 rfl rfl rfl) ?_; refine o_q _ rfl rfl rfl (v_add rfl rfl rfl (by omega)) ?_; refine o_q _ rfl rfl rfl (v_bS rfl Tryz.underlying43 inf43 plt43 rfl rfl rfl (by repeat (first | exact trivial | refine ⟨rfl, ?_⟩)) (by rfl)) ?_; refine o_q _ rfl rfl rfl (v_bS rfl Tryz.underlying291 inf291 plt291 rfl rfl rfl (by repeat (first | exact trivial | refine ⟨rfl, ?_⟩)) (by rfl)) ?_; refine o_st rfl inf291 rfl rfl rfl rfl rfl rfl rfl rfl ?_; refine o_nil (r_then ?_); refine r_ret ?_; exact r_retv2 (Rd.one rfl (RdI.cellW Tryz.underlying291 rfl inf291 rfl rfl)) rfl SelMC.sel SubRC.sub
set_option maxHeartbeats 4000000 in
theorem tight_v (d k t : Int) (hd : -1000 ≤ d ∧ d ≤ 1000) (hk : -1000 ≤ k ∧ k ≤ 1000) : FnV Tryz.prog 238 [.agg #[i64 d, i64 k, i64 t]] [] (.agg #[i64 (1 + k), i64 (5 + d), i64 0, i64 t]) := by
 refine FnV.intro Tryz.call238 Tryz.func238 rfl Tryz.ntmps238 rfl ?_; intro W M Rf; refine r_seq (r_region ?_); refine o_boxA rfl rfl rfl rfl rfl (fun b1 => ?_); refine o_alloc rfl inf291 rfl rfl rfl rfl rfl (fun b2 => ?_); refine o_nil (r_then (r_seq ?_)); refine r_par' 10 mixed (by kernel_rfl) (by rfl) ?_; refine p_q _ rfl rfl rfl (fun _ _ => v_fieldAddr rfl Tryz.underlying354 inf3 rfl rfl rfl rfl) ?_; refine p_q _ rfl rfl rfl (fun _ _ => v_ld1 rfl Tryz.underlying3 rfl rfl rfl) ?_; refine p_q _ rfl rfl rfl (fun _ _ => v_add rfl rfl rfl (by omega)) ?_; refine p_q _ rfl rfl rfl (fun _ _ => v_fieldAddr rfl Tryz.underlying354 inf352 rfl rfl rfl rfl) ?_; refine p_q _ rfl rfl rfl (fun _ _ => v_ldN rfl Tryz.underlying352 rfl inf352 rfl rfl rfl) ?_; refine p_q _ rfl rfl rfl (fun _ _ => OpQ.fn (wet_v d hd) rfl rfl SubRC.sub) ?_; refine p_q _ rfl rfl rfl (fun _ _ => v_field rfl Tryz.underlying291 Tryz.underlying3 inf3 rfl rfl rfl rfl) ?_; refine p_q _ rfl rfl rfl (fun _ _ => v_fieldAddr rfl Tryz.underlying354 inf3 rfl rfl rfl rfl) ?_; refine p_q _ rfl rfl rfl (fun _ _ => v_ld1 rfl Tryz.underlying3 rfl rfl rfl) ?_; refine p_q _ rfl rfl rfl (fun _ _ => v_bS rfl Tryz.underlying43 inf43 plt43 rfl rfl rfl (by repeat (first | exact trivial | refine ⟨rfl, ?_⟩)) (by rfl)) ?_; refine p_nil2 (by simp only [List.nil_append, List.cons_append]; rfl) rfl ?_; (iterate 10 refine f_q rfl ?_); refine f_nil ?_; refine o_q _ rfl rfl rfl (v_bS rfl Tryz.underlying291 inf291 plt291 rfl rfl rfl (by repeat (first | exact trivial | refine ⟨rfl, ?_⟩)) (by rfl)) ?_; refine o_st rfl inf291 rfl rfl rfl rfl rfl rfl rfl rfl ?_; refine o_nil (r_then ?_); refine r_ret ?_; exact r_retv2 (Rd.one rfl (RdI.cellW Tryz.underlying291 rfl inf291 rfl rfl)) rfl SelMC.sel SubRC.sub
def signT (x : Sign) : TypeId := if x.kind = 0 then 354 else if x.kind = 1 then 354 else 352
def signU (x : Sign) : Value := if x.kind = 0 then .agg #[i64 x.day, i64 x.bank, i64 10] else if x.kind = 1 then .agg #[i64 x.day, i64 x.bank, i64 5] else .agg #[i64 x.day]
def signF (x : Sign) : FuncId := if x.kind = 0 then 238 else if x.kind = 1 then 238 else 237
theorem hm148 : HasM Tryz.prog 352 "bogworks/burst.bound" 237 := HasM.mk' inf352 (by kernel_rfl) Tryz.underlying352 rfl
theorem hm150 : HasM Tryz.prog 354 "bogworks/burst.bound" 238 := HasM.mk' inf354 (by kernel_rfl) Tryz.underlying354 rfl
theorem signM (x : Sign) : HasM Tryz.prog (signT x) "bogworks/burst.bound" (signF x) := by
  unfold signT signF
  split
  · exact hm150
  split
  · exact hm150
  · exact hm148
theorem sign_e0 {x : Sign} (h : x.kind = 0) : Value.iface (signT x) (signU x) = .iface 354 (.agg #[i64 x.day, i64 x.bank, i64 10]) := by unfold signT signU; rw [if_pos h, if_pos h]
theorem sign_e1 {x : Sign} (h : x.kind = 1) : Value.iface (signT x) (signU x) = .iface 354 (.agg #[i64 x.day, i64 x.bank, i64 5]) := by
  unfold signT signU; rw [if_neg (by omega), if_pos h, if_neg (by omega), if_pos h]
theorem sign_e2 {x : Sign} (h : ¬ x.kind = 0) (h2 : ¬ x.kind = 1) : Value.iface (signT x) (signU x) = .iface 352 (.agg #[i64 x.day]) := by
  unfold signT signU; rw [if_neg h, if_neg h2, if_neg h, if_neg h2]
@[reducible] def vN (x : Bnd) : Value := .agg (encN x).toArray
theorem vN_mk {a b lo hi a' b' : Int} (x : Bnd) (h1 : a = x.a) (h2 : b = x.b) (h3 : lo = x.lo) (h4 : hi = x.hi) : Value.agg #[i64 a, i64 b, i64 lo, i64 hi] = vN x := by subst h1; subst h2; subst h3; subst h4; rfl
theorem signB_v (x : Sign) (h : SignOk B x) (hn : (B.banks.length : Int) ≤ 4 ∧ (B.rain.length : Int) ≤ 5) : FnV Tryz.prog (signF x) [signU x] [] (vN (signB x)) := by
  obtain ⟨hd, hk⟩ := h
  unfold signF signU signB
  split
  · rw [← vN_mk (a := 1 + x.bank) (b := 5 + x.day) (lo := 0) (hi := 10) (a' := 0) (b' := 0) ⟨1 + x.bank.toNat, 5 + x.day.toNat, 0, 10⟩ (by show _ = ((1 + x.bank.toNat : Nat) : Int); omega) (by show _ = ((5 + x.day.toNat : Nat) : Int); omega) rfl rfl]
    exact tight_v _ _ _ (by omega) (by omega)
  split
  · rw [← vN_mk (a := 1 + x.bank) (b := 5 + x.day) (lo := 0) (hi := 5) (a' := 0) (b' := 0) ⟨1 + x.bank.toNat, 5 + x.day.toNat, 0, 5⟩ (by show _ = ((1 + x.bank.toNat : Nat) : Int); omega) (by show _ = ((5 + x.day.toNat : Nat) : Int); omega) rfl rfl]
    exact tight_v _ _ _ (by omega) (by omega)
  · rw [← vN_mk (a := 5 + x.day) (b := 0) (lo := 15) (hi := 65536) (a' := 0) (b' := 0) ⟨5 + x.day.toNat, 0, 15, 65536⟩ (by show _ = ((5 + x.day.toNat : Nat) : Int); omega) rfl rfl rfl]
    exact wet_v _ (by omega)
set_option maxHeartbeats 4000000 in
theorem sign_v (i : Nat) (hi : i < B.signs.length) : FnV Tryz.prog 196 [pt bb 0, i64 i] [boxF bb 230 [.slice bo B.banks.length bc, i64 B.wlo, i64 B.whi, .slice ro B.rain.length rc, i64 B.drain, .slice so B.signs.length sc, .map (some mb)], rowD bo 4 encB B.banks, rowD ro 2 encS B.rain, rowD so 3 encG B.signs] (.iface (signT (B.signs.getD i default)) (signU (B.signs.getD i default))) := by
 refine FnV.intro Tryz.call196 Tryz.func196 rfl Tryz.ntmps196 rfl ?_; intro W M Rf; refine r_seq (r_region ?_); refine q_as rfl rfl rfl rfl rfl ?_; refine o_nil (r_then (r_seq (r_region ?_))); refine q_mv rfl rfl rfl rfl rfl ?_; refine o_q _ rfl rfl rfl (v_nilCheck rfl rfl) ?_; refine o_q _ rfl rfl rfl (v_fieldAddr rfl Tryz.underlying230 inf66 rfl rfl rfl rfl) ?_; refine o_q _ rfl rfl rfl (v_fieldAddr rfl Tryz.underlying66 inf64 rfl rfl rfl rfl) ?_; refine o_q _ rfl rfl rfl (v_lf1 rfl Tryz.underlying64 rfl rfl rfl) ?_; refine q_mv rfl rfl rfl rfl rfl ?_; refine o_q _ rfl rfl rfl (v_indexAddrSn rfl Tryz.underlying64 inf142 rfl rfl rfl hi rfl) ?_; refine o_q _ rfl rfl rfl (v_loadEN rfl Tryz.underlying142 rfl inf142 rfl hi rfl rfl rfl) ?_; refine o_alloc rfl inf142 rfl rfl rfl rfl rfl (fun b5 => ?_); refine o_st rfl inf142 rfl rfl rfl rfl rfl rfl rfl rfl ?_; refine o_nil (r_then (r_seq ?_)); refine r_seq ?_; refine Imp.box_to b5 [i64 (B.signs.getD i default).kind, i64 (B.signs.getD i default).bank, i64 (B.signs.getD i default).day] rfl ?_; refine r_region ?_; refine o_q _ rfl rfl rfl (v_fieldAddr rfl Tryz.underlying142 inf3 rfl rfl rfl rfl) ?_; refine o_q _ rfl rfl rfl (v_ld1 rfl Tryz.underlying3 rfl rfl rfl) ?_; refine o_nil (r_then ?_); refine r_block ?_; refine r_seq (r_region ?_); refine o_q _ rfl rfl rfl (v_eql rfl rfl rfl) ?_; refine q_as rfl rfl rfl rfl rfl ?_; refine o_nil (r_then ?_); refine r_condd rfl (fun hc16 => ?_) (fun hc16 => ?_)
 ·
  refine r_seq (r_region ?_); refine o_q _ rfl rfl rfl (v_fieldAddr rfl Tryz.underlying142 inf3 rfl rfl rfl rfl) ?_; refine o_q _ rfl rfl rfl (v_ld1 rfl Tryz.underlying3 rfl rfl rfl) ?_; refine o_q _ rfl rfl rfl (v_bS rfl Tryz.underlying352 inf352 plt352 rfl rfl rfl (by repeat (first | exact trivial | refine ⟨rfl, ?_⟩)) (by rfl)) ?_; refine o_q _ rfl rfl rfl (v_fieldAddr rfl Tryz.underlying142 inf3 rfl rfl rfl rfl) ?_; refine o_q _ rfl rfl rfl (v_ld1 rfl Tryz.underlying3 rfl rfl rfl) ?_; refine o_q _ rfl rfl rfl (v_bS rfl Tryz.underlying354 inf354 plt354 rfl rfl rfl (by repeat (first | exact trivial | refine ⟨rfl, ?_⟩)) (by rfl)) ?_; refine o_q _ rfl rfl rfl (v_makeIface rfl Tryz.underlying354 rfl rfl) ?_; refine q_as rfl rfl rfl rfl rfl ?_; refine o_nil (r_then ?_); refine r_ret ?_; (with_reducible refine r_in_ret ?_; refine r_then_ret ?_); exact r_retv2 (Rd.tmp rfl rfl) (by rw [sign_e0 (by assumption)]; try rfl) SelMC.sel SubRC.sub
 ·
  refine r_seq (r_region ?_); refine o_q _ rfl rfl rfl (v_eql rfl rfl rfl) ?_; refine q_as rfl rfl rfl rfl rfl ?_; refine o_nil (r_then ?_); refine r_condd rfl (fun hc25 => ?_) (fun hc25 => ?_)
  ·
   refine r_seq (r_region ?_); refine o_q _ rfl rfl rfl (v_fieldAddr rfl Tryz.underlying142 inf3 rfl rfl rfl rfl) ?_; refine o_q _ rfl rfl rfl (v_ld1 rfl Tryz.underlying3 rfl rfl rfl) ?_; refine o_q _ rfl rfl rfl (v_bS rfl Tryz.underlying352 inf352 plt352 rfl rfl rfl (by repeat (first | exact trivial | refine ⟨rfl, ?_⟩)) (by rfl)) ?_; refine o_q _ rfl rfl rfl (v_fieldAddr rfl Tryz.underlying142 inf3 rfl rfl rfl rfl) ?_; refine o_q _ rfl rfl rfl (v_ld1 rfl Tryz.underlying3 rfl rfl rfl) ?_; refine o_q _ rfl rfl rfl (v_bS rfl Tryz.underlying354 inf354 plt354 rfl rfl rfl (by repeat (first | exact trivial | refine ⟨rfl, ?_⟩)) (by rfl)) ?_; refine o_q _ rfl rfl rfl (v_makeIface rfl Tryz.underlying354 rfl rfl) ?_; refine q_as rfl rfl rfl rfl rfl ?_; refine o_nil (r_then ?_); refine r_ret ?_; (with_reducible refine r_in_ret ?_; refine r_then_ret ?_); exact r_retv2 (Rd.tmp rfl rfl) (by rw [sign_e1 (by assumption)]; try rfl) SelMC.sel SubRC.sub
  ·
   refine r_skip ?_; refine r_in_normal ?_; refine r_then (r_seq (r_region ?_)); refine o_q _ rfl rfl rfl (v_fieldAddr rfl Tryz.underlying142 inf3 rfl rfl rfl rfl) ?_; refine o_q _ rfl rfl rfl (v_ld1 rfl Tryz.underlying3 rfl rfl rfl) ?_; refine o_q _ rfl rfl rfl (v_bS rfl Tryz.underlying352 inf352 plt352 rfl rfl rfl (by repeat (first | exact trivial | refine ⟨rfl, ?_⟩)) (by rfl)) ?_; refine o_q _ rfl rfl rfl (v_makeIface rfl Tryz.underlying352 rfl rfl) ?_; refine q_as rfl rfl rfl rfl rfl ?_; refine o_nil (r_then ?_); refine r_ret ?_; exact r_retv2 (Rd.tmp rfl rfl) (by rw [sign_e2 (by assumption) (by assumption)]; try rfl) SelMC.sel SubRC.sub
set_option maxHeartbeats 4000000 in
theorem mar54_m (k d : Int) (c1 c2 : Nat) (hn : B.banks.length ≤ 1000) : FnM Tryz.prog 90 [pt bb 0, pt c1 0, pt c2 0] (bx bb 230 [.slice bo B.banks.length bc, i64 B.wlo, i64 B.whi, .slice ro B.rain.length rc, i64 B.drain, .slice so B.signs.length sc, .map (some mb)]) [boxF c1 3 [i64 k], boxF c2 3 [i64 d]] (fun u => u = .bool (decide ((0 ≤ k ∧ k ≤ (B.banks.length : Int) - 1) ∧ (0 ≤ d ∧ d ≤ (B.rain.length : Int))))) := by
 refine FnM.intro Tryz.call90 Tryz.func90 rfl Tryz.ntmps90 rfl ?_; intro W M Rf; refine r_seq (r_region ?_); refine q_as rfl rfl rfl rfl rfl ?_; refine o_nil (r_then (r_seq (r_region ?_))); refine q_mv rfl rfl rfl rfl rfl ?_; refine o_q _ rfl rfl rfl (v_lf1 rfl Tryz.underlying3 rfl rfl rfl) ?_; refine o_test rfl rfl rfl (OpQ.fnm (isBank_m B bo ro so bc rc sc bb mb k hn) rfl [] [] rfl rfl rfl SubRC.sub) (fun h7 => ?_) (fun h7 => ?_)
 all_goals
  refine q_mv rfl rfl rfl rfl rfl ?_
  first | refine o_gn rfl rfl rfl rfl ?_ | refine o_g _ rfl rfl rfl rfl (v_move rfl rfl) ?_
  first | refine o_gn rfl rfl rfl rfl ?_ | refine o_g _ rfl rfl rfl rfl (v_lf1 rfl Tryz.underlying3 rfl rfl rfl) ?_
  first | refine o_gn rfl rfl rfl rfl ?_ | refine o_gtest rfl rfl rfl rfl (OpQ.fnm (isDay_m B bo ro so bc rc sc bb mb d) rfl [] [] rfl rfl rfl SubRC.sub) (fun h11 => ?_) (fun h11 => ?_)
  all_goals
   first | refine o_q _ rfl rfl rfl (v_pick_t rfl rfl rfl) ?_ | refine o_q _ rfl rfl rfl (v_pick_f rfl rfl rfl) ?_
   refine q_as rfl rfl rfl rfl rfl ?_; refine o_nil (r_then ?_); refine r_ret ?_
   first
   | exact r_retm (Rd.tmp rfl rfl) (congrArg Value.bool (decide_eq_true ⟨by assumption, by assumption⟩).symm) SelMC.sel SubRC.sub
   | exact r_retm (Rd.tmp rfl rfl) (congrArg Value.bool (decide_eq_false (fun h => absurd h.1 (by assumption))).symm) SelMC.sel SubRC.sub
   | exact r_retm (Rd.tmp rfl rfl) (congrArg Value.bool (decide_eq_false (fun h => absurd h.2 (by assumption))).symm) SelMC.sel SubRC.sub
end Go.Proofs.YtpndeonmmcaikaaGreat.BurstW
