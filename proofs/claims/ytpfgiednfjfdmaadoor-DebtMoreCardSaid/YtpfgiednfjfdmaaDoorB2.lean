/- Part 2 of 5 of what the proofs of this seat stand on: a small logic for walks, what the functions come to, and the walks themselves. No condition of its own. -/
import Derived.Test.YtpfgiednfjfdmaaDoorB1
import Derived.Maps.Keyed
import Derived.OrdersIn
import Derived.Deep.Slices
import Derived.ProofKit
import Derived.OpenShut
import Derived.WideKeyEntry
set_option linter.unusedVariables false
set_option linter.unusedSimpArgs false
set_option linter.unusedSectionVars false
namespace Go.G
variable {P : Program} {W : World} {n : Nat} {D : List Deferred} {L : Tm} {M : List Res} {R : List Fact} {Q : Exit → Act → World → Prop} {o : Oper}
theorem v_andn {t u : TypeId} {x y : Operand} {a b : Nat} (ho : o.op = .binOp .and t x y u) (hx : ev L x = some (.int .i64 (a : Int))) (hy : ev L y = some (.int .i64 (b : Int))) (ha : a < 2 ^ 62) (hb : b < 2 ^ 62) : OpQ P W n L M R o (.int .i64 ((a &&& b : Nat) : Int)) :=
  OpQ.of_value fun f w h1 _ => by
    have hlt : a &&& b ≤ a := Nat.and_le_left
    have hw : IntKind.wrap .i64 ((a &&& b : Nat) : Int) = ((a &&& b : Nat) : Int) := by
      rw [IntKind.wrap_i64]; omega
    have hs : (Op.intBits .and .i64 (a : Int) (b : Int)).run P w = .ok (.int .i64 ((a &&& b : Nat) : Int)) w := by
      unfold Op.intBits
      have e1 : (BitVec.ofInt IntKind.i64.bits (a : Int) &&& BitVec.ofInt IntKind.i64.bits (b : Int)).toNat = a &&& b := by
        have h64 : IntKind.i64.bits = 64 := rfl
        rw [BitVec.toNat_and]
        simp only [BitVec.ofInt_natCast, BitVec.toNat_ofNat, h64]
        rw [Nat.mod_eq_of_lt (by omega), Nat.mod_eq_of_lt (by omega)]
      simp only [e1, hw, Sem.run_pure]
    have hb2 : (binOp .and t (.int .i64 (a : Int)) (.int .i64 (b : Int))).run P w = .ok (.int .i64 ((a &&& b : Nat) : Int)) w := hs
    simp [execOp, ho, h1.ev hx, h1.ev hy, eqGuard, hb2]
/-- A slice that is made, in the free part: known from then on. -/
abbrev Spc.mk' {α : Type} (l c sz : Nat) (enc : α → List Value) (z0 : α) : Spc := Spc.g (fun v => v = .slice (some ⟨sblk v, 0, none⟩) (List.replicate l z0).length c) (fun _ => []) (fun v => [rowD (some ⟨sblk v, 0, none⟩) sz enc (List.replicate l z0)])
end Go.G


namespace Go.G
variable {P : Program} {W : World} {n : Nat} {D : List Deferred} {L : Tm} {M : List Res} {R : List Fact} {Q : Exit → Act → World → Prop} {o : Oper}
/-- A store that fills a new variable, the whole of it. -/
theorem p_stl {ops : Array Oper} {K : List Spc → Prop} {rest : List Oper} {acc : List Spc} {T B : TypeId} {x : Nat} {y : Operand} {zs us : List Value} {v : Value} {i : TypeInfo} (j : Nat) {oj : Oper} (hg : o.guard = none) (hdst : o.dst = none) (ho : o.op = .store T (.tmp x) y) (hi : P.info? T = some i)
    (hoj : ops[j]? = some oj) (hx : oj.dst.getD 1000000 = x) (hsj : acc[j]? = some (Spc.al isPt (boxAt B zs) acc.length (boxAt B us))) (hdep : depD ops o j = true) (hy : ∀ u, ev ((x, u) :: L) y = some v) (hc : v.cells.toList = us) (hsz : us.length = i.size) (hl : zs.length = us.length) (h1 : oneCells us = true)
    (h : ParO P W n M R ops K rest (acc ++ [Spc.s j]) L) : ParO P W n M R ops K (o :: rest) acc L := by
  refine p_upd5 (r := boxAt B us) hg hdst hoj hsj rfl rfl hdep (fun u hu => ?_) h
  obtain ⟨b, rfl⟩ := hu
  rw [hx]
  intro Mx Rx a w g1 g3
  have g3 : St W (Mx ++ (bx b B zs :: M)) (Rx ++ R) w := g3
  obtain ⟨w', hr, hw'⟩ := run_storeCells' (P := P) us 0 0 (b := b) (T := B) (vs := zs) (M' := Mx ++ (bx b B us :: M)) g3 (by rw [Nat.zero_add, splice_all hl]; exact ⟨Mx, M, rfl, rfl⟩) (oneCells_mem h1) (by omega)
  have hcs : v.cells.size = i.size := by rw [← hsz, ← hc]; simp
  have hxe : ev ((x, pt b 0) :: L) (.tmp x) = some (pt b 0) := by simp [ev, look_cons_eq]
  have hrun : (execOp a.eval o).run P w = .ok .skip w' := by
    simp [execOp, ho, g1.ev hxe, g1.ev (hy _), Instr.storeAt, pt, Instr.sureAddr, storeVar, run_sizeOf' hi, hcs, hc, hr]
  rw [hrun]
  refine ⟨rfl, ?_⟩
  refine hw'.perm ?_
  show (Mx ++ (bx b B us :: M)).Perm ([bx b B us] ++ (Mx ++ M))
  exact List.perm_middle
end Go.G


namespace Go.G
variable {P : Program} {W : World} {n : Nat} {D : List Deferred} {L : Tm} {M : List Res} {R : List Fact} {Q : Exit → Act → World → Prop} {o : Oper}
end Go.G


namespace Go.G
variable {P : Program} {W : World} {n : Nat} {D : List Deferred} {L : Tm} {M : List Res} {R : List Fact} {Q : Exit → Act → World → Prop} {o : Oper}
structure Cm (f : Int → Int) (l : List MapEntry) : Prop where
  all : ∀ e ∈ l, ∃ z, (Lit.int .i64 z).wf = true ∧ e.key = (Value.int .i64 z) ∧ e.val = (Value.int .i64 (f z))
  nodup : (l.map MapEntry.key).Nodup
  zero : ∀ z, f z ≠ 0 → ∃ e ∈ l, e.key = (Value.int .i64 z)
def updF (f : Int → Int) (z y : Int) : Int → Int := fun x => if x = z then y else f x
theorem Cm.push {f : Int → Int} {l : List MapEntry} {z y : Int} {clock : Nat} (h : Cm f l) (hw : (Lit.int .i64 z).wf = true) (hn : ∀ e ∈ l, e.key ≠ (Value.int .i64 z)) : Cm (updF f z y) (l ++ [{ key := (Value.int .i64 z), val := (Value.int .i64 y), born := clock }]) := by
  refine ⟨fun e he => ?_, ?_, fun z' hz' => ?_⟩
  · rcases List.mem_append.1 he with he | he
    · obtain ⟨z', h1, h2, h3⟩ := h.all e he
      refine ⟨z', h1, h2, ?_⟩
      have : z' ≠ z := fun x => hn e he (by rw [h2, x])
      simp [updF, this, h3]
    · have : e = { key := (Value.int .i64 z), val := (Value.int .i64 y), born := clock } := by simpa using he
      subst this
      exact ⟨z, hw, rfl, by simp [updF]⟩
  · rw [List.map_append, List.nodup_append]
    refine ⟨h.nodup, by simp, fun a ha b hb => ?_⟩
    obtain ⟨e, he, rfl⟩ := List.mem_map.1 ha
    have : b = (Value.int .i64 z) := by simpa using hb
    subst this
    exact hn e he
  · by_cases e : z' = z
    · subst e; exact ⟨_, List.mem_append_right _ (List.mem_singleton.2 rfl), rfl⟩
    · obtain ⟨x, hx, hk⟩ := h.zero z' (by simpa [updF, e] using hz')
      exact ⟨x, List.mem_append_left _ hx, hk⟩
theorem Cm.set {f : Int → Int} {l : List MapEntry} {z y : Int} {j : Nat} {e0 : MapEntry} (h : Cm f l) (hw : (Lit.int .i64 z).wf = true) (hj : l[j]? = some e0) (hk : e0.key = (Value.int .i64 z)) {l' : List MapEntry}
    (hl : ∀ m, l'[m]? = if j = m then some { e0 with key := (Value.int .i64 z), val := (Value.int .i64 y) } else l[m]?) : Cm (updF f z y) l' := by
  have hkeys : l'.map MapEntry.key = l.map MapEntry.key := by
    apply List.ext_getElem?
    intro m
    rw [List.getElem?_map, List.getElem?_map, hl m]
    split
    · rename_i e; subst e; rw [hj]; simp [hk]
    · rfl
  refine ⟨fun e he => ?_, by rw [hkeys]; exact h.nodup, fun z' hz' => ?_⟩
  · obtain ⟨m, hm⟩ := List.mem_iff_getElem?.1 he
    rw [hl m] at hm
    split at hm
    · have : e = { e0 with key := (Value.int .i64 z), val := (Value.int .i64 y) } := by simpa using hm.symm
      subst this
      exact ⟨z, hw, rfl, by simp [updF]⟩
    · rename_i hne
      obtain ⟨z', h1, h2, h3⟩ := h.all e (List.mem_of_getElem? hm)
      refine ⟨z', h1, h2, ?_⟩
      have : z' ≠ z := fun x => by
        subst x
        have k1 : (l.map MapEntry.key)[j]? = some ((Value.int .i64 z')) := by rw [List.getElem?_map, hj]; simp [hk]
        have k2 : (l.map MapEntry.key)[m]? = some ((Value.int .i64 z')) := by rw [List.getElem?_map, hm]; simp [h2]
        have hlt : j < (l.map MapEntry.key).length := (List.getElem?_eq_some_iff.1 k1).1
        exact hne ((List.getElem?_inj hlt h.nodup).1 (k1.trans k2.symm))
      simp [updF, this, h3]
  · have hkk : (Value.int .i64 z') ∈ l'.map MapEntry.key := by
      rw [hkeys]
      by_cases e : z' = z
      · subst e; rw [← hk]; exact List.mem_map_of_mem (List.mem_of_getElem? hj)
      · obtain ⟨x, hx, hkx⟩ := h.zero z' (by simpa [updF, e] using hz')
        rw [← hkx]; exact List.mem_map_of_mem hx
    obtain ⟨x, hx, hkx⟩ := List.mem_map.1 hkk
    exact ⟨x, hx, hkx⟩
end Go.G


namespace Go.G
variable {P : Program} {W : World} {n : Nat} {D : List Deferred} {L : Tm} {M : List Res} {R : List Fact} {Q : Exit → Act → World → Prop} {o : Oper}
end Go.G


set_option linter.unusedVariables false
set_option linter.unusedSimpArgs false
namespace Go.G
variable {P : Program} {W : World} {n : Nat} {D : List Deferred} {L : Tm} {M : List Res} {R : List Fact} {Q : Exit → Act → World → Prop} {o : Oper}
/-- An owned slice, or an empty one without room at any place. -/
def ownZ {α : Type} (v : Value) (T : TypeId) (sz : Nat) (enc : α → List Value) (xs : List α) : Res := fun s => ((∃ oa, v = .slice oa 0 0) ∧ xs = [] ∧ s = []) ∨ ownL v T sz enc xs s
theorem flat_len {α : Type} {enc : α → List Value} {sz : Nat} (henc : ∀ x, (enc x).length = sz) : ∀ xs : List α, (xs.flatMap enc).length = xs.length * sz
  | [] => by simp
  | x :: r => by rw [List.flatMap_cons, List.length_append, henc, flat_len henc r, List.length_cons, Nat.add_mul]; omega
/-- A new row that holds some cells, as an owned slice. -/
theorem St.newOwn {α : Type} {enc : α → List Value} {sz : Nat} {w : World} {e : TypeId} {i : TypeInfo} {z : Value} (hsz : i.size = sz) (hzs : z.cells.size = sz) (henc : ∀ x, (enc x).length = sz) (xs : List α) {old : Nat} (h63 : xs.length ≤ maxLen) (hold : old < xs.length) (h : St W M R w) {cs : Array Value} (hcs : cs.toList = xs.flatMap enc) :
    St W (ownL (.slice (some ⟨w.heap.size, 0, none⟩) xs.length (grownCap w xs.length old e)) e sz enc xs :: M) R (w.drew.alloc (.cells (cs ++ Builtin.zeroCells z.cells (grownCap w xs.length old e - xs.length)) e)) := by
  have hge := grownCap_ge w xs.length old e
  have hcm := grownCap_le_maxLen w xs.length old e h63
  have hd : St W M R w.drew := h.heap rfl rfl rfl rfl
  have hp := hd.push (.cells (cs ++ Builtin.zeroCells z.cells (grownCap w xs.length old e - xs.length)) e)
  have hl := flat_len henc xs
  have hcl : cs.size = xs.length * sz := by rw [← hl, ← hcs]; simp
  refine hp.replace Upd.here rfl rfl rfl ?_
  intro s' hs' hO'
  refine ⟨s', ⟨hl, .inr ⟨w.heap.size, grownCap w xs.length old e, _, rfl, hge, hcm, ?_, ?_, hs'⟩⟩, hO', fun b hb => .inl hb, fun _ _ _ => rfl⟩
  · simp only [Array.size_append, size_zeroCells, hzs, hcl, ← Nat.add_mul]
    congr 1; omega
  · simp only [Array.toList_append, hcs]
    rw [← hl]
    exact List.take_left
theorem St.rowCells {α : Type} {enc : α → List Value} {sz : Nat} {w : World} {oa : Option Addr} {ys : List α} (h : St W M R w) (hm : rowD oa sz enc ys ∈ R) (henc : ∀ x, (enc x).length = sz) (hne : 0 < ys.length) : ∃ b off, oa = some ⟨b, off, none⟩ ∧ ∀ j u, (ys.flatMap enc)[j]? = some u → w.cell? ((⟨b, off, none⟩ : Addr).add j) = some u := by
  obtain ⟨b2, off, rfl, hc⟩ := h.row hm hne
  refine ⟨b2, off, rfl, fun j u hu => ?_⟩
  have hj : j < ys.length * sz := by rw [← flat_len henc ys]; exact (List.getElem?_eq_some_iff.1 hu).1
  have hpos : 0 < sz := Nat.pos_of_ne_zero fun h => by rw [h] at hj; simp at hj
  have hlt : j % sz < sz := Nat.mod_lt _ hpos
  have hdiv : j / sz < ys.length := Nat.div_lt_of_lt_mul (by rw [Nat.mul_comm]; exact hj)
  have hkk : j = (j / sz) * sz + j % sz := by rw [Nat.mul_comm]; exact (Nat.div_add_mod j sz).symm
  have e1 := flat_at henc ys _ _ hdiv hlt
  rw [← hkk, hu] at e1
  rw [add_at]
  have e2 := hc _ _ hdiv hlt
  rw [Nat.add_assoc, ← hkk] at e2
  rw [e2, ← e1]
/-- 'append([]T{}, xs...)'. -/
theorem run_appN {α : Type} {enc : α → List Value} {sz : Nat} {w : World} {t ty e : TypeId} {i : TypeInfo} {z : Value} {ys : List α} {oa : Option Addr} {c b : Nat} (h : St W M R w) (hm : rowD oa sz enc ys ∈ R) (henc : ∀ x, (enc x).length = sz) (ht : P.underlying t = some (.slice e)) (hi : P.info? e = some i) (hz : i.zero = some z) (hsz : i.size = sz) (hzs : z.cells.size = sz)
    (hbd : ys.length ≤ 1000000 ∧ i.bytes ≤ 1000000) : ∃ v' w', (Builtin.append_ #[t, t] ty #[.slice (some ⟨b, 0, none⟩) 0 0, .slice oa ys.length c]).run P w = .ok v' w' ∧ St W (ownZ v' e sz enc ys :: M) R w' := by
  subst hsz
  by_cases hy : ys = []
  · subst hy
    refine ⟨.slice (some ⟨b, 0, none⟩) 0 0, w, ?_, ?_⟩
    · cases oa <;> simp [Builtin.append_, run_underlying ht, sizeOf, typeInfo, hi, Builtin.lenOf, Builtin.firstCells, loadCells, loadCellsFrom, storeCells]
    · obtain ⟨s, hS, hO, hR⟩ := h.mem
      exact ⟨h.os, h.tape, h.output, s, ⟨[], s, rfl, .inl ⟨⟨_, rfl⟩, rfl, rfl⟩, hS⟩, hO, hR⟩
  · have hne : 0 < ys.length := List.length_pos_iff.2 hy
    obtain ⟨b2, off, rfl, hnews⟩ := h.rowCells hm henc hne
    have hl := flat_len henc ys
    have hby : ys.length * i.bytes ≤ 140737488355328 := by
      have : ys.length * i.bytes ≤ 1000000 * 1000000 := Nat.mul_le_mul hbd.1 hbd.2
      omega
    have hr := run_append_grow (P := P) w t ty e i z ht hi hz ⟨b, 0, none⟩ 0 0 [] (by simp) (by simp) ⟨b2, off, none⟩ ys.length c (ys.flatMap enc) hl hnews (by omega) (by omega) (growslice_fits (by omega) (by rw [Nat.zero_add]; exact hby))
    have hgr := h.newOwn (e := e) (z := z) (i := i) rfl hzs henc ys (old := 0) (by simp only [maxLen]; omega) hne (cs := (ys.flatMap enc).toArray) (by simp)
    simp only [Nat.zero_add, List.nil_append] at hr
    refine ⟨_, _, hr, ?_⟩
    refine St.replace (r := ownL (.slice (some ⟨w.heap.size, 0, none⟩) ys.length (grownCap w ys.length 0 e)) e i.size enc ys) ?_ Upd.here rfl rfl rfl (fun s' hs' hO' => ⟨s', .inr hs', hO', fun b hb => .inl hb, fun _ _ _ => rfl⟩)
    simpa using hgr
/-- An empty literal's slice. -/
def isL0 (v : Value) : Prop := ∃ b, v = .slice (some ⟨b, 0, none⟩) 0 0
abbrev Spc.l0 : Spc := Spc.g isL0 (fun _ => []) (fun _ => [])
theorem run_lit0 {w : World} {t e : TypeId} {i : TypeInfo} {ρ : Operand → Value} (ho : o.op = .buildSlice t 0 #[]) (ht : P.underlying t = some (.slice e)) (hi : P.info? e = some i) : (execOp ρ o).run P w = .ok (.value (.slice (some ⟨w.heap.size, 0, none⟩) 0 0)) (w.alloc (.cells #[] e)) := by
  simp only [execOp, ho, Instr.buildSlice, Sem.run_bind, run_underlying ht, run_sizeOf' hi, Result.andThen_ok]
  simp [newRow, newObj, Sem.run, Instr.fill]
  congr 2
  exact Array.eq_empty_of_size_eq_zero (by simp)
theorem p_lit0 {ops : Array Oper} {K : List Spc → Prop} {rest : List Oper} {acc : List Spc} {t e : TypeId} {i : TypeInfo} {d : Nat} (ho : o.op = .buildSlice t 0 #[]) (ht : P.underlying t = some (.slice e)) (hi : P.info? e = some i) (hg : o.guard = none) (hdst : o.dst = some d) (hd : Nat.blt d n = true)
    (hr : ParO P W n M R ops K rest (acc ++ [Spc.l0]) L) : ParO P W n M R ops K (o :: rest) acc L := by
  refine ⟨Spc.l0, by simp [hdst, hd], .inl ⟨rfl, .inl ⟨.inl hg, ?_⟩⟩, by simpa [addL, Spc.g] using hr⟩
  intro Mx Rx a w g1 g3
  have g3 : St W (Mx ++ M) (Rx ++ R) w := g3
  rw [run_lit0 ho ht hi]
  exact ⟨⟨_, rfl⟩, (g3.push _).drop⟩
theorem o_lit0' {ops : Array Oper} {rest : List Oper} {t e : TypeId} {i : TypeInfo} {d : Nat} (ho : o.op = .buildSlice t 0 #[]) (ht : P.underlying t = some (.slice e)) (hi : P.info? e = some i) (hg : o.guard = none) (hdst : o.dst = some d) (hd : Nat.blt d n = true)
    (h : ∀ b, Imp W n D ((d, .slice (some ⟨b, 0, none⟩) 0 0) :: L) M R (wpList P ops Q rest)) : Imp W n D L M R (wpList P ops Q (o :: rest)) := by
  intro a w g1 g2 g3
  refine wpList_plain hg fun K hK => ?_
  unfold Oper.wp
  rw [run_lit0 ho ht hi, Oper.upon_value, hdst]
  exact hK _ _ (h w.heap.size _ _ (g1.put (by simpa using hd) _) (by rw [put_defers]; exact g2) (g3.push _).drop)
abbrev Spc.oz {α : Type} (e : TypeId) (sz : Nat) (enc : α → List Value) (ys : List α) : Spc := Spc.g (fun _ => True) (fun v => [ownZ v e sz enc ys]) (fun _ => [])
theorem p_appN {α : Type} {enc : α → List Value} {ops : Array Oper} {K : List Spc → Prop} {rest : List Oper} {acc : List Spc} {d x : Nat} {y : Operand} {t e : TypeId} {i : TypeInfo} {z : Value} {sz c : Nat} {oa : Option Addr} {ys : List α} (j : Nat) {oj : Oper} [hrow : HasRow oa R sz enc ys] (hoj : ops[j]? = some oj) (hx : oj.dst.getD 1000000 = x) (hsj : acc[j]? = some Spc.l0) (hdep : depD ops o j = true)
    (hg : o.guard = none) (hdst : o.dst = some d) (hd : Nat.blt d n = true) (ho : o.op = .call { callee := .builtin .append, args := #[.tmp x, y], argTypes := #[t, t] }) (ht : P.underlying t = some (.slice e)) (hi : P.info? e = some i) (hz : i.zero = some z) (hsz : i.size = sz) (hzs : z.cells.size = sz) (henc : ∀ x, (enc x).length = sz)
    (hy : ∀ u, ev ((x, u) :: L) y = some (.slice oa ys.length c)) (hbd : ys.length ≤ 1000000 ∧ i.bytes ≤ 1000000) (h : ParO P W n M R ops K rest (acc ++ [Spc.oz e sz enc ys]) L) : ParO P W n M R ops K (o :: rest) acc L := by
  refine ⟨Spc.oz e sz enc ys, by simp [hdst, hd], .inl ⟨rfl, .inr (.inr (.inl ⟨hg, j, oj, Spc.l0, hoj, hsj, rfl, hdep, ?_⟩))⟩, by simpa [addL, Spc.g] using h⟩
  rintro u ⟨b, rfl⟩
  rw [hx]
  intro Mx Rx a w g1 g3
  have g3 : St W (Mx ++ M) (Rx ++ R) w := g3
  obtain ⟨v', w', hr, hw'⟩ := run_appN (P := P) (ty := o.type) (c := c) (b := b) g3 (List.mem_append_right _ hrow.mem) henc ht hi hz hsz hzs hbd
  have hxe : ev ((x, Value.slice (some ⟨b, 0, none⟩) 0 0) :: L) (.tmp x) = some (.slice (some ⟨b, 0, none⟩) 0 0) := by simp [ev, look_cons_eq]
  have hrun : (execOp a.eval o).run P w = .ok (.value v') w' := by
    unfold execOp
    simp only [ho, resolve, invoke, builtin, Sem.run_bind, Sem.run_pure, Result.andThen_ok, List.map_toArray, List.map_cons, List.map_nil, g1.ev hxe, g1.ev (hy _), hr]
  rw [hrun]
  exact ⟨trivial, hw'⟩
theorem f_oz {α : Type} {X : Act → World → Prop} {os : List Oper} {ss : List Spc} {e : TypeId} {sz : Nat} {enc : α → List Value} {ys : List α} {d : Nat} (hdst : o.dst = some d) (h : ∀ v, Fin W n D X os ss ((d, v) :: L) (ownZ v e sz enc ys :: M) R) : Fin W n D X (o :: os) (Spc.oz e sz enc ys :: ss) L M R := f_g hdst (fun v _ => h v)
theorem f_l0 {X : Act → World → Prop} {os : List Oper} {ss : List Spc} {d : Nat} (hdst : o.dst = some d) (h : ∀ b, Fin W n D X os ss ((d, .slice (some ⟨b, 0, none⟩) 0 0) :: L) M R) : Fin W n D X (o :: os) (Spc.l0 :: ss) L M R := f_g hdst (by rintro v ⟨b, rfl⟩; exact h b)
/-- In the order of the text, of cells that are known. -/
theorem o_appN {α : Type} {enc : α → List Value} {ops : Array Oper} {rest : List Oper} {d b c : Nat} {x y : Operand} {t e : TypeId} {i : TypeInfo} {z : Value} {sz : Nat} {oa : Option Addr} {ys : List α} [hrow : HasRow oa R sz enc ys] (ho : o.op = .call { callee := .builtin .append, args := #[x, y], argTypes := #[t, t] }) (ht : P.underlying t = some (.slice e)) (hi : P.info? e = some i) (hz : i.zero = some z) (hsz : i.size = sz) (hzs : z.cells.size = sz) (henc : ∀ x, (enc x).length = sz)
    (hg : o.guard = none) (hdst : o.dst = some d) (hd : Nat.blt d n = true) (hx : ev L x = some (.slice (some ⟨b, 0, none⟩) 0 0)) (hy : ev L y = some (.slice oa ys.length c)) (hbd : ys.length ≤ 1000000 ∧ i.bytes ≤ 1000000)
    (h : ∀ v, Imp W n D ((d, v) :: L) (ownZ v e sz enc ys :: M) R (wpList P ops Q rest)) : Imp W n D L M R (wpList P ops Q (o :: rest)) := by
  intro a w g1 g2 g3
  refine wpList_plain hg fun K hK => ?_
  unfold Oper.wp
  obtain ⟨v', w', hr, hw'⟩ := run_appN (P := P) (ty := o.type) (c := c) (b := b) g3 hrow.mem henc ht hi hz hsz hzs hbd
  have hrun : (execOp a.eval o).run P w = .ok (.value v') w' := by
    unfold execOp
    simp only [ho, resolve, invoke, builtin, Sem.run_bind, Sem.run_pure, Result.andThen_ok, List.map_toArray, List.map_cons, List.map_nil, g1.ev hx, g1.ev hy, hr]
  rw [hrun, Oper.upon_value, hdst]
  exact hK _ _ (h v' _ w' (g1.put (by simpa using hd) v') (by rw [put_defers]; exact g2) hw')
theorem St.ownZ_cases {α : Type} {enc : α → List Value} {sz : Nat} {w : World} {v : Value} {e : TypeId} {xs : List α} {M' : List Res} (h : St W (ownZ v e sz enc xs :: M') R w) : ((∃ oa, v = .slice oa 0 0) ∧ xs = [] ∧ St W M' R w) ∨ St W (ownL v e sz enc xs :: M') R w := by
  obtain ⟨s, ⟨s1, s2, rfl, hz, hS⟩, hO, hR⟩ := h.mem
  rcases hz with ⟨hv, hx, rfl⟩ | hz
  · exact .inl ⟨hv, hx, ⟨h.os, h.tape, h.output, s2, hS, by simpa using hO, by simpa using hR⟩⟩
  · exact .inr ⟨h.os, h.tape, h.output, s1 ++ s2, ⟨s1, s2, rfl, hz, hS⟩, hO, hR⟩
/-- One element more. -/
theorem o_appZ1F {α : Type} {enc : α → List Value} {sz : Nat} {v : Value} {xs : List α} {M' : List Res} {ops : Array Oper} {rest : List Oper} {s x : Operand} {t e B : TypeId} {i : TypeInfo} {z : Value} {c d b : Nat} {news : List Value} [hM : DelC M (ownZ v e sz enc xs) M'] [hm : HasBoxF b R B news] (y : α) (ho : o.op = .call { callee := .builtin .append, args := #[s, x], argTypes := #[t, t] })
    (ht : P.underlying t = some (.slice e)) (hi : P.info? e = some i) (hz : i.zero = some z) (hsz : i.size = sz) (hzs : z.cells.size = sz) (henc : ∀ x, (enc x).length = sz) (hg : o.guard = none) (hdst : o.dst = some d) (hd : Nat.blt d n = true)
    (hs : ev L s = some v) (hx : ev L x = some (.slice (some ⟨b, 0, none⟩) 1 c)) (hy : news = enc y) (h1 : oneCells news = true) (hbd : xs.length ≤ 1000000 ∧ i.bytes ≤ 1000000)
    (h : ∀ v', Imp W n D ((d, v') :: L) (ownL v' e sz enc (xs ++ [y]) :: M') R (wpList P ops Q rest)) : Imp W n D L M R (wpList P ops Q (o :: rest)) := by
  subst hy
  intro a w g1 g2 g3
  refine wpList_plain hg fun K hK => ?_
  unfold Oper.wp
  have g4 : St W (ownZ v e sz enc xs :: M') R w := g3.perm hM.del.perm
  have hl : (enc y).length = 1 * sz := by rw [henc, Nat.one_mul]
  have hcell : ∀ j u, (enc y)[j]? = some u → w.cell? ((⟨b, 0, none⟩ : Addr).add j) = some u := fun j u hu => by rw [add_at, Nat.zero_add, g3.cellF hm.mem]; exact hu
  have run : ∃ v' w', (Builtin.append_ #[t, t] o.type #[v, .slice (some ⟨b, 0, none⟩) 1 c]).run P w = .ok v' w' ∧ St W (ownL v' e sz enc (xs ++ [y]) :: M') R w' := by
    rcases g4.ownZ_cases with ⟨⟨oa, rfl⟩, rfl, g5⟩ | g5
    · subst hsz
      have hgr := g5.newOwn (e := e) (z := z) (i := i) rfl hzs henc [y] (old := 0) (by simp [maxLen]) (by simp) (cs := (enc y).toArray) (by simp)
      have hby : 1 * i.bytes ≤ 140737488355328 := by omega
      cases oa with
      | none =>
        have hr := Go.run_append_nil (P := P) w t o.type e i z ht hi hz ⟨b, 0, none⟩ 1 c (enc y) hl hcell (by omega) (by omega) (by omega)
        exact ⟨_, _, hr, by simpa using hgr⟩
      | some ad =>
        have hr := run_append_grow (P := P) w t o.type e i z ht hi hz ad 0 0 [] (by simp) (by simp) ⟨b, 0, none⟩ 1 c (enc y) hl hcell (by omega) (by omega) (growslice_fits (by omega) (by rw [Nat.zero_add]; exact hby))
        simp only [Nat.zero_add] at hr
        exact ⟨_, _, hr, by simpa using hgr⟩
    · have hby : (xs.length + 1) * i.bytes ≤ 140737488355328 := by
        have : (xs.length + 1) * i.bytes ≤ 1000001 * 1000000 := Nat.mul_le_mul (by omega) hbd.2
        omega
      obtain ⟨v', w', hr, hw'⟩ := run_append (P := P) (ty := o.type) (c := c) (k := 1) g5 ht hi hz hsz hzs hcell hl (oneCells_mem h1) (by simp only [maxLen]; omega) hby (M' := M') ⟨[], M', rfl, rfl⟩
      refine ⟨v', w', hr, ?_⟩
      unfold ownL
      simpa using hw'
  obtain ⟨v', w', hr, hw'⟩ := run
  have hrun : (execOp a.eval o).run P w = .ok (.value v') w' := by
    unfold execOp
    simp only [ho, resolve, invoke, builtin, Sem.run_bind, Sem.run_pure, Result.andThen_ok, List.map_toArray, List.map_cons, List.map_nil, g1.ev hs, g1.ev hx, hr]
  rw [hrun, Oper.upon_value, hdst]
  exact hK _ _ (h v' _ w' (g1.put (by simpa using hd) v') (by rw [put_defers]; exact g2) hw')
/-- An owned slice that holds something, as a box with room behind. -/
theorem Imp.openZ {α : Type} {enc : α → List Value} {sz : Nat} {T : TypeId} {xs : List α} {M' : List Res} {X : Act → World → Prop} (v : Value) [hd : DelC M (ownZ v T sz enc xs) M'] (hne : 0 < xs.length)
    (h : ∀ b cap sp, v = .slice (some ⟨b, 0, none⟩) xs.length cap → Imp W n D L (bx b T (xs.flatMap enc ++ sp) :: M') R X) : Imp W n D L M R X := by
  intro a w g1 g2 g3
  have g4 : St W (ownZ v T sz enc xs :: M') R w := g3.perm hd.del.perm
  rcases g4.ownZ_cases with ⟨_, hx, _⟩ | g5
  · subst hx; simp at hne
  · obtain ⟨s, ⟨s1, s2, rfl, ho, hS⟩, hO, hR⟩ := g5.mem
    obtain ⟨hlen, ⟨_, h0, _⟩ | ⟨b, cap, C, rfl, hmc, hcm, hC, htake, rfl⟩⟩ := ho
    · omega
    · refine h b cap (C.toList.drop (xs.length * sz)) rfl a w g1 g2 ⟨g5.os, g5.tape, g5.output, _, ⟨_, s2, rfl, ?_, hS⟩, hO, hR⟩
      show _ = _
      rw [← htake, List.take_append_drop]
/-- For good. -/
theorem Imp.settleZ {α : Type} {enc : α → List Value} {sz : Nat} {T : TypeId} {xs : List α} {M' : List Res} {X : Act → World → Prop} (v : Value) [hd : DelC M (ownZ v T sz enc xs) M'] (henc : ∀ x, (enc x).length = sz) (h : ∀ oa cap, v = .slice oa xs.length cap → Imp W n D L M' (rowD oa sz enc xs :: R) X) : Imp W n D L M R X := by
  intro a w g1 g2 g3
  have g4 : St W (ownZ v T sz enc xs :: M') R w := g3.perm hd.del.perm
  rcases g4.ownZ_cases with ⟨⟨oa, hv⟩, rfl, g5⟩ | g5
  · exact h oa 0 hv a w g1 g2 (g5.derive (fun V _ => .inl rfl))
  · haveI : HasOwn v (ownL v T sz enc xs :: M') T sz enc xs M' := ⟨Del.here⟩
    exact Imp.settleS (M := ownL v T sz enc xs :: M') v henc h a w g1 g2 g5
/-- What a box for good holds first, as a row. -/
theorem Imp.rowP {α : Type} {enc : α → List Value} {sz : Nat} {b : Nat} {T : TypeId} {vs sp : List Value} {X : Act → World → Prop} (xs : List α) (henc : ∀ x, (enc x).length = sz) [hb : HasBoxF b R T vs] (e : vs = xs.flatMap enc ++ sp) (h : Imp W n D L M (rowD (some ⟨b, 0, none⟩) sz enc xs :: R) X) : Imp W n D L M R X := by
  subst e
  refine h.derive fun V hV => .inr ⟨b, 0, _, T, (0, 0), rfl, hV _ hb.mem, fun i j hi hj => ?_⟩
  rw [← flat_at henc xs i j hi hj, Nat.zero_add]
  have : (i + 1) * sz ≤ xs.length * sz := Nat.mul_le_mul_right _ hi
  rw [Nat.add_mul] at this
  rw [List.getElem?_toArray, List.getElem?_append_left (by rw [flat_len henc]; omega)]
/-- The address of an element of an owned slice. -/
theorem v_indexAddrB {T : TypeId} {x ix : Operand} {l c b : Nat} {e : TypeId} {i : TypeInfo} {k : Nat} {kd : IntKind} (ho : o.op = .indexAddr T x ix) (hT : P.underlying T = some (.slice e)) (hi : P.info? e = some i)
    (hx : ev L x = some (.slice (some ⟨b, 0, none⟩) l c)) (hk : ev L ix = some (.int kd (k : Int))) (h1 : k < l) : OpQ P W n L M R o (pt b (k * i.size)) :=
  OpQ.of_value fun g w g1 _ => by
    simp [execOp, ho, g1.ev hx, g1.ev hk, Instr.indexAt, pt, run_underlying hT, asIntOf, h1, run_sizeOf' hi, add_at]
/-- A state in the middle of a text. -/
def Mid {ι : Type} (W : World) (n : Nat) (D : List Deferred) (I : ι → Prop) (LI : ι → Tm) (MI : ι → List Res) (RI : ι → List Fact) (a : Act) (w : World) : Prop := ∃ i, I i ∧ Here W n D (LI i) (MI i) (RI i) a w
theorem r_here_mid {ι : Type} {I : ι → Prop} {LI : ι → Tm} {MI : ι → List Res} {RI : ι → List Fact} (i : ι) (h : Imp W n D L M R (Here W n D (LI i) (MI i) (RI i))) (hI : I i) : Imp W n D L M R (Mid W n D I LI MI RI) := h.mono fun _ _ hx => ⟨i, hI, hx⟩
theorem r_mid {ι : Type} {x y : Code} (I : ι → Prop) (LI : ι → Tm) (MI : ι → List Res) (RI : ι → List Fact) (h1 : Imp W n D L M R (x.wp P (Exit.then (Mid W n D I LI MI RI) Q))) (h2 : ∀ i, I i → Imp W n D (LI i) (MI i) (RI i) (y.wp P Q)) : Imp W n D L M R ((Code.seq x y).wp P Q) := by
  refine r_seq (h1.mono fun a w hx => ?_)
  refine Code.wp_mono (fun e a' w' he => ?_) hx
  cases e
  case normal =>
    obtain ⟨i, hi, g1, g2, g3⟩ := he
    exact h2 i hi a' w' g1 g2 g3
  all_goals exact he
end Go.G


set_option linter.unusedVariables false
namespace Go.G
variable {P : Program} {W : World} {n : Nat} {D : List Deferred} {L : Tm} {M : List Res} {R : List Fact} {Q : Exit → Act → World → Prop} {o : Oper}
end Go.G


set_option linter.unusedVariables false
set_option linter.unusedSimpArgs false
namespace Go.G
variable {P : Program} {W : World} {n : Nat} {D : List Deferred} {L : Tm} {M : List Res} {R : List Fact} {Q : Exit → Act → World → Prop} {o : Oper} {F : Fence} {m0 : Nat}
end Go.G


set_option linter.unusedVariables false
set_option linter.unusedSimpArgs false
namespace Go.G
variable {P : Program} {W : World} {n : Nat} {D : List Deferred} {L : Tm} {M : List Res} {R : List Fact} {Q : Exit → Act → World → Prop} {o : Oper}
theorem St.swap {w : World} {r r' : Res} {M' : List Res} (h : St W (r :: M') R w) (hr : ∀ s, r s → r' s) : St W (r' :: M') R w := by
  obtain ⟨s, ⟨s1, s2, rfl, hz, hS⟩, hO, hR⟩ := h.mem
  exact ⟨h.os, h.tape, h.output, s1 ++ s2, ⟨s1, s2, rfl, hr _ hz, hS⟩, hO, hR⟩
end Go.G


set_option linter.unusedVariables false
set_option linter.unusedSimpArgs false
namespace Go.G
variable {P : Program} {W : World} {n : Nat} {D : List Deferred} {L : Tm} {M : List Res} {R : List Fact} {Q : Exit → Act → World → Prop} {o : Oper}
theorem u64_small {a : Nat} (h : a < 2 ^ 62) : IntKind.wrap .u64 (a : Int) = (a : Int) := IntWalk.u64_in _ (by omega)
theorem v_shlU {t u : TypeId} {x y : Operand} {h m : Nat} (ho : o.op = .binOp .shl t x y u) (hx : ev L x = some (.int .u64 1)) (hy : ev L y = some (.int .i64 (h : Int))) (hh : h < 62) (hm : m = 2 ^ h) : OpQ P W n L M R o (.int .u64 (m : Int)) :=
  OpQ.of_value fun f w h1 _ => by
    have h2 : ¬ ((h : Int) < 0) := by omega
    have h3 : min h 64 = h := by omega
    have h4 : (2 : Nat) ^ h ≤ 2 ^ 61 := Nat.pow_le_pow_right (by omega) (by omega)
    have hw : IntKind.wrap .u64 (m : Int) = (m : Int) := u64_small (by rw [hm]; omega)
    have e : (1 : Int) * 2 ^ (min (h : Int).toNat IntKind.u64.bits) = (m : Int) := by
      rw [show (h : Int).toNat = h from by simp, show IntKind.u64.bits = 64 from rfl, h3, hm]
      simp
    have hs : (Op.shift .shl .u64 1 .i64 (h : Int)).run P w = .ok (.int .u64 (m : Int)) w := by
      unfold Op.shift
      rw [if_neg h2]
      simp only [e, hw, Sem.run_pure]
    have hb : (binOp .shl t (.int .u64 1) (.int .i64 (h : Int))).run P w = .ok (.int .u64 (m : Int)) w := hs
    simp [execOp, ho, h1.ev hx, h1.ev hy, eqGuard, hb]
theorem v_addU {t u : TypeId} {x y : Operand} {a b : Int} (ho : o.op = .binOp .add t x y u) (hx : ev L x = some (.int .u64 a)) (hy : ev L y = some (.int .u64 b)) (h : 0 ≤ a + b ∧ a + b ≤ 18446744073709551615) : OpQ P W n L M R o (.int .u64 (a + b)) :=
  OpQ.of_value fun f w h1 _ => by simp [execOp, ho, h1.ev hx, h1.ev hy, eqGuard, binOp, Op.intArith, IntWalk.u64_in _ h]
/-! ### functions with a range over a function that take resources -/
theorem FnC.introM {k : FuncId} {args : List Value} {r r' : Res} {R0 : List Fact} {v : Value} {fn : Func} {c : Code} (he : ∀ (ag : Array Value) (w : World), (callFunc k ag).run P w = .ok (.enter k ag) w)
    (hf : P.funcs[k]? = some fn) (hb : fn.body = some c) (hn : fn.ntmps = n) (ha : Nat.ble args.length n = true)
    (h : ∀ W Mf Rf, Imp W n [] (argsL args 0) (r :: Mf) (R0 ++ Rf) (c.wp P (bodyPostM Fence.wide 0 P fn (RetE W Mf (R0 ++ Rf) (fun e M' R' => e = .returned v ∧ M' = [r'] ∧ R' = []))))) : FnC P k args r R0 v r' := by
  refine ⟨he, fun W M Rf w hw => (callsIn_wide (n := 0)).1 (callsIn_of_wp_marks hf hb trivial (wpIn_wide.2 ?_))⟩
  rw [hn]
  exact h W M Rf _ w (FSat.entry (Nat.le_of_ble_eq_true ha)) rfl hw
theorem m_rete {db : Nat} {fn : Func} {v : Value} {Mf M1 : List Res} {R0 : List Fact} {Post : Ending → List Res → List Fact → Prop} (M' : List Res) (R' : List Fact) [hM : DelC M (bl db (.deferred (some []))) M1] (hr : Rd P W n L M1 R fn v) (hp : Post (.returned v) M' R') (hS : SelM M1 (M' ++ Mf)) (hR : SubR R (R' ++ R0)) :
    Imp W n [mark db] L M R (bodyPostM Fence.wide 0 P fn (RetE W Mf R0 Post) .ret) :=
  leaves_mark hr (fun _ h => ⟨M', R', hp, (h.sel hS).weak hR⟩)
end Go.G


set_option linter.unusedVariables false
namespace Go.G
variable {P : Program} {W : World} {n : Nat} {D : List Deferred} {L : Tm} {M : List Res} {R : List Fact} {Q : Exit → Act → World → Prop} {o : Oper}
theorem r_parX {id : Nat} {l : List Oper} (m : Nat) (hm : P.follows .mixedOrders = true) (hpb : parB (l.take m) (l.drop m) = true) (hfr : freshB L (l.take m) = true)
    (h : ParO P W n M R l.toArray (fun ss => preOf ss = [] ∧ lateB l.toArray ss 0 ss = true ∧ (∀ (i : Nat) (s : Spc) (c : List PanicEntry), ss[i]? = some s → s.ab = some c → Imp W n D L M R (Q (.panic c))) ∧ Fin W n D (wpList P l.toArray Q (l.drop m)) (l.take m) ss L M R) (l.take m) [] L) : Imp W n D L M R ((Code.region id l.toArray true).wp P Q) :=
  r_parG (l.take m) (l.drop m) (List.take_append_drop m l).symm hm hpb (fun o ho => by
    have := List.all_eq_true.1 hfr o ho
    simpa using this) (h.mono fun ss hs => by
      rw [hs.1]; exact ⟨SelM.refl, hs.2⟩)
def abOf (ss : List Spc) : List (List PanicEntry) := ss.filterMap (·.ab)
theorem p_nilX {ops : Array Oper} {F : List Spc → Prop} {Z : List PanicEntry → Prop} {acc acc' : List Spc} (c : List PanicEntry) (e : acc = acc') (hp : preOf acc' = []) (hl : lateB ops acc' 0 acc' = true) (ha : abOf acc' = [c]) (hz : Z c) (h : F acc') : ParO P W n M R ops (fun ss => preOf ss = [] ∧ lateB ops ss 0 ss = true ∧ (∀ (i : Nat) (s : Spc) (c : List PanicEntry), ss[i]? = some s → s.ab = some c → Z c) ∧ F ss) [] acc L := by
  subst e
  refine p_nil ⟨hp, hl, fun i s c' h1 h2 => ?_, h⟩
  have : c' ∈ abOf acc := List.mem_filterMap.2 ⟨s, List.mem_of_getElem? h1, h2⟩
  rw [ha] at this
  have : c' = c := by simpa using this
  subst this; exact hz
@[reducible] def panOf (pv : Value) : List PanicEntry := [{ v := pv, recovered := false }]
def Spc.dead (c : List PanicEntry) : Spc := ⟨none, fun _ => False, fun _ => [], fun _ => [], [], none, none, some c⟩
/-- A call that panics. -/
theorem p_deadX {ops : Array Oper} {K : List Spc → Prop} {rest : List Oper} {acc : List Spc} {k : FuncId} {args : List Value} {R0 : List Fact} {pv : Value} {xs : List Operand} {ts : Array TypeId} {d : Nat}
    (h : FnX P k args R0 pv) (ho : o.op = .call { callee := .value (.func k), args := xs.toArray, argTypes := ts })
    (hx : evs L xs = some args) (hg : o.guard = none) (hdst : o.dst = some d) (hd : Nat.blt d n = true) (hs : SubR R R0)
    (hr : ParO P W n M R ops K rest (acc ++ [Spc.dead (panOf pv)]) L) : ParO P W n M R ops K (o :: rest) acc L := by
  refine ⟨Spc.dead (panOf pv), by simp [hdst, hd], .inl ⟨rfl, .inl ⟨.inl hg, ?_⟩⟩, by simpa [addL, Spc.dead] using hr⟩
  intro Mx Rx a w h1 h2
  have h2 : St W (Mx ++ M) (Rx ++ R) w := h2
  rw [exec_call [] [] ho rfl (h1.evs hx) h.enter]
  simp only [List.nil_append, List.append_nil]
  refine ⟨rfl, (h.calls W (Mx ++ M) (Rx ++ R) w (h2.both (fun φ hφ => List.mem_append_right _ (hs φ hφ)))).mono ?_⟩
  rintro e w' ⟨rfl, hw'⟩
  exact .inr ⟨_, rfl, rfl, [], hw'.weak (fun φ hφ => List.mem_append_right _ hφ)⟩
/-- What waits for it is never carried out. -/
theorem p_dead {ops : Array Oper} {K : List Spc → Prop} {rest : List Oper} {acc : List Spc} {sj : Spc} {d : Nat} (j : Nat) {oj : Oper} (hoj : ops[j]? = some oj) (hsj : acc[j]? = some sj) (hdj : sj.det = none) (hF : ∀ u, ¬ sj.pval u) (hdep : depD ops o j = true) (hg : o.guard = none) (hdst : o.dst = some d) (hd : Nat.blt d n = true)
    (hr : ParO P W n M R ops K rest (acc ++ [Spc.g (fun _ => False) (fun _ => []) (fun _ => [])]) L) : ParO P W n M R ops K (o :: rest) acc L :=
  ⟨Spc.g (fun _ => False) (fun _ => []) (fun _ => []), by simp [hdst, hd], .inl ⟨rfl, .inr (.inr (.inl ⟨hg, j, oj, sj, hoj, hsj, hdj, hdep, fun u hu => absurd hu (hF u)⟩))⟩, by simpa [addL, Spc.g] using hr⟩
theorem f_dead {X : Act → World → Prop} {os : List Oper} {ss : List Spc} {c : List PanicEntry} : Fin W n D X (o :: os) (Spc.dead c :: ss) L M R := fun _ hv => hv.elim
/-- A call that hands back a pointer with resources that a later one takes. -/
theorem p_openL {ops : Array Oper} {K : List Spc → Prop} {rest : List Oper} {acc : List Spc} {k : FuncId} {args : List Value} {R0 : List Fact} {res : Nat → Res} {xs : List Operand} {ts : Array TypeId} {d : Nat} (kT : Nat)
    (h : FnS P k args [] R0 (fun e M' R' => ∃ b, e = .returned (pt b 0) ∧ M' = [res b] ∧ R' = [])) (ho : o.op = .call { callee := .value (.func k), args := xs.toArray, argTypes := ts })
    (hx : evs L xs = some args) (hg : o.guard = none) (hdst : o.dst = some d) (hd : Nat.blt d n = true) (hs : SubR R R0)
    (hr : ParO P W n M R ops K rest (acc ++ [Spc.al isPt (fun v => [res (blk v)]) kT (fun _ => [])]) L) : ParO P W n M R ops K (o :: rest) acc L := by
  refine ⟨Spc.al isPt (fun v => [res (blk v)]) kT (fun _ => []), by simp [hdst, hd], .inl ⟨rfl, .inl ⟨.inl hg, ?_⟩⟩, by simpa [addL, Spc.al] using hr⟩
  intro Mx Rx a w h1 h2
  have h2 : St W (Mx ++ M) (Rx ++ R) w := h2
  rw [exec_call [] [] ho rfl (h1.evs hx) h.enter]
  simp only [List.nil_append, List.append_nil]
  have h3 : St W ([] ++ (Mx ++ M)) (R0 ++ (Rx ++ R)) w := h2.both (fun φ hφ => List.mem_append_right _ (hs φ hφ))
  refine ⟨rfl, (h.calls W (Mx ++ M) (Rx ++ R) w h3).mono ?_⟩
  rintro e w' ⟨M1, R1, ⟨b, rfl, rfl, rfl⟩, hw'⟩
  refine .inl ⟨pt b 0, rfl, ⟨b, rfl⟩, ?_⟩
  exact hw'.weak (fun φ hφ => List.mem_append_right _ (List.mem_append_right _ hφ))
theorem f_openL {X : Act → World → Prop} {os : List Oper} {ss : List Spc} {res : Nat → Res} {k d : Nat} (hdst : o.dst = some d) (h : ∀ b, Fin W n D X os ss ((d, pt b 0) :: L) M R) : Fin W n D X (o :: os) (Spc.al isPt (fun v => [res (blk v)]) k (fun _ => []) :: ss) L M R := by
  show ∀ v, isPt v → Fin W n D X os ss (putL o.dst v L) ([] ++ M) ([] ++ R)
  rw [hdst]
  rintro v ⟨b, rfl⟩
  exact h b
theorem f_take {X : Act → World → Prop} {os : List Oper} {ss : List Spc} {v : Value} {j d : Nat} (hdst : o.dst = some d) (h : Fin W n D X os ss ((d, v) :: L) M R) : Fin W n D X (o :: os) (Spc.s5 (some v) (fun _ => True) j none :: ss) L M R := by
  show Fin W n D X os ss (putL o.dst v L) M R
  rw [hdst]; exact h
end Go.G


set_option linter.unusedVariables false
namespace Go.G
variable {P : Program} {W : World} {n : Nat} {D : List Deferred} {L : Tm} {M : List Res} {R : List Fact} {Q : Exit → Act → World → Prop} {o : Oper}
section
variable {α : Type} {enc : α → List Value} {sz : Nat} {T : TypeId} {xs : List α} {M' : List Res} {oa : Option Addr} {cap : Nat}
end
end Go.G


namespace Go.G
theorem flat_set {α : Type} [Inhabited α] {enc : α → List Value} {sz : Nat} (henc : ∀ x, (enc x).length = sz) {y : α} {v : Value} {sp : List Value} : ∀ (xs : List α) (i j : Nat), i < xs.length → j < sz → enc y = (enc (xs.getD i default)).set j v → (xs.flatMap enc ++ sp).set (i * sz + j) v = (xs.set i y).flatMap enc ++ sp
  | [], i, j, h, _, _ => by simp at h
  | x :: r, 0, j, _, hj, he => by
    simp only [List.flatMap_cons, List.set_cons_zero, Nat.zero_mul, Nat.zero_add, List.append_assoc]
    rw [List.set_append_left _ _ (by rw [henc]; exact hj)]
    have he : enc y = (enc x).set j v := he
    rw [he]
  | x :: r, i + 1, j, h, hj, he => by
    simp only [List.flatMap_cons, List.set_cons_succ, List.append_assoc]
    rw [List.set_append_right _ _ (by rw [henc, Nat.add_mul]; omega), henc, show (i + 1) * sz + j - sz = i * sz + j from by rw [Nat.add_mul]; omega]
    rw [flat_set henc r i j (by simpa using h) hj he]
theorem flat_get {α : Type} [Inhabited α] {enc : α → List Value} {sz : Nat} (henc : ∀ x, (enc x).length = sz) {sp : List Value} {xs : List α} {i j : Nat} (hi : i < xs.length) (hj : j < sz) : (xs.flatMap enc ++ sp)[i * sz + j]? = (enc (xs.getD i default))[j]? := by
  have h : i * sz + j < (xs.flatMap enc).length := by
    rw [flat_len henc]
    have : (i + 1) * sz ≤ xs.length * sz := Nat.mul_le_mul_right _ hi
    rw [Nat.add_mul] at this; omega
  rw [List.getElem?_append_left h, flat_at henc xs i j hi hj]
  congr 1
  simp [List.getD_eq_getElem?_getD, hi]
end Go.G


namespace Debt10
structure Span where
  lo : Int
  hi : Int
  deriving DecidableEq, Inhabited
structure Due where
  who : Int
  day : Int
  sods : Span
  late : Int
  deriving DecidableEq, Inhabited
structure Paid where
  who : Int
  day : Int
  sods : Span
  deriving DecidableEq, Inhabited
structure Debt where
  people : Int
  dues : List Due
  paid : List Paid
  deriving DecidableEq, Inhabited
def SodsOk (s : Span) : Prop := 1 ≤ s.lo ∧ s.lo ≤ s.hi ∧ s.hi ≤ 500 ∧ s.hi - s.lo ≤ 20
def DueOk (D : Debt) (x : Due) : Prop := (0 ≤ x.who ∧ x.who ≤ D.people - 1) ∧ (0 ≤ x.day ∧ x.day ≤ 30) ∧ SodsOk x.sods ∧ (0 ≤ x.late ∧ x.late ≤ 10)
def PaidOk (D : Debt) (x : Paid) : Prop := (0 ≤ x.who ∧ x.who ≤ D.people - 1) ∧ (0 ≤ x.day ∧ x.day ≤ 30) ∧ SodsOk x.sods
instance (s : Span) : Decidable (SodsOk s) := by unfold SodsOk; infer_instance
instance (D : Debt) (x : Due) : Decidable (DueOk D x) := by unfold DueOk; infer_instance
instance (D : Debt) (x : Paid) : Decidable (PaidOk D x) := by unfold PaidOk; infer_instance
structure GoodD (D : Debt) : Prop where
  np : 1 ≤ D.people ∧ D.people ≤ 4
  nd : D.dues.length ≤ 6
  ny : D.paid.length ≤ 6
  dues : ∀ k, k < D.dues.length → DueOk D (D.dues.getD k default)
  paid : ∀ k, k < D.paid.length → PaidOk D (D.paid.getD k default)
theorem goodD_iff (D : Debt) : GoodD D ↔ (1 ≤ D.people ∧ D.people ≤ 4) ∧ D.dues.length ≤ 6 ∧ D.paid.length ≤ 6 ∧ (∀ k, k < D.dues.length → DueOk D (D.dues.getD k default)) ∧ (∀ k, k < D.paid.length → PaidOk D (D.paid.getD k default)) :=
  ⟨fun h => ⟨h.np, h.nd, h.ny, h.dues, h.paid⟩, fun ⟨a, b, c, d, e⟩ => ⟨a, b, c, d, e⟩⟩
instance (D : Debt) : Decidable (GoodD D) := decidable_of_iff _ (goodD_iff D).symm
/-! ### what is open -/
structure Opn where
  number : Nat
  day : Nat
  left : Int
  late : Int
  deriving DecidableEq, Inhabited
/-- What is ahead goes to what is owed, the first first; what is settled stays, with nothing left. -/
def payF : List Opn → Int → List Opn
  | [], _ => []
  | x :: r, A => { x with left := max 0 (x.left - A) } :: payF r (max 0 (A - x.left))
def restF : List Opn → Int → Int
  | [], A => A
  | x :: r, A => restF r (max 0 (A - x.left))
/-- .. what is settled is left out. -/
def payL : List Opn → Int → List Opn
  | [], _ => []
  | x :: r, A => if max 0 (x.left - A) > 0 then { x with left := max 0 (x.left - A) } :: payL r (max 0 (A - x.left)) else payL r (max 0 (A - x.left))
def isOpen (x : Opn) : Bool := decide (x.left > 0)
def total : List Opn → Int
  | [] => 0
  | x :: r => x.left + total r
def Pos (l : List Opn) : Prop := ∀ x ∈ l, 0 ≤ x.left
theorem Pos.tail {x : Opn} {r : List Opn} (h : Pos (x :: r)) : Pos r := fun y hy => h y (List.mem_cons_of_mem _ hy)
theorem pay_pos : ∀ (l : List Opn) (A : Int), Pos (payF l A)
  | [], _ => fun x hx => by cases hx
  | x :: r, A => fun y hy => by
    rcases List.mem_cons.1 hy with rfl | hy
    · show 0 ≤ max 0 (x.left - A); omega
    · exact pay_pos r _ y hy
theorem payL_filter : ∀ (l : List Opn) (A : Int), payL l A = (payF l A).filter isOpen
  | [], _ => rfl
  | x :: r, A => by
    show (if max 0 (x.left - A) > 0 then _ else _) = List.filter isOpen ({ x with left := max 0 (x.left - A) } :: payF r (max 0 (A - x.left)))
    rw [List.filter_cons]
    by_cases h : max 0 (x.left - A) > 0
    · rw [if_pos h, if_pos (by unfold isOpen; exact decide_eq_true h), payL_filter r]
    · rw [if_neg h, if_neg (by unfold isOpen; rw [decide_eq_true_iff]; exact h), payL_filter r]
/-- What is settled takes nothing. -/
theorem pay_open : ∀ {l : List Opn} {A : Int}, Pos l → 0 ≤ A → payL (l.filter isOpen) A = payL l A ∧ restF (l.filter isOpen) A = restF l A
  | [], _, _, _ => ⟨rfl, rfl⟩
  | x :: r, A, h, hA => by
    have h1 := h x (List.mem_cons_self ..)
    rw [List.filter_cons]
    by_cases e : x.left > 0
    · rw [if_pos (by unfold isOpen; exact decide_eq_true e)]
      obtain ⟨h2, h3⟩ := pay_open (A := max 0 (A - x.left)) h.tail (by omega)
      refine ⟨?_, h3⟩
      show (if _ then _ else _) = (if _ then _ else _)
      rw [h2]
    · rw [if_neg (by unfold isOpen; rw [decide_eq_true_iff]; exact e)]
      have h0 : x.left = 0 := by omega
      obtain ⟨h2, h3⟩ := pay_open (A := A) h.tail hA
      have e1 : max 0 (A - x.left) = A := by omega
      refine ⟨?_, ?_⟩
      · show _ = (if max 0 (x.left - A) > 0 then _ else payL r (max 0 (A - x.left)))
        rw [if_neg (by omega), e1, h2]
      · show _ = restF r (max 0 (A - x.left))
        rw [e1, h3]
theorem total_open : ∀ {l : List Opn}, Pos l → total (l.filter isOpen) = total l
  | [], _ => rfl
  | x :: r, h => by
    have h1 := h x (List.mem_cons_self ..)
    rw [List.filter_cons]
    by_cases e : x.left > 0
    · rw [if_pos (by unfold isOpen; exact decide_eq_true e)]
      show x.left + total _ = x.left + total r
      rw [total_open h.tail]
    · rw [if_neg (by unfold isOpen; rw [decide_eq_true_iff]; exact e), total_open h.tail]
      show _ = x.left + total r
      omega
/-- What is late grows. -/
def growF (d : Nat) (l : List Opn) : List Opn := l.map fun x => if x.left > 0 ∧ x.day < d then { x with left := x.left + x.late } else x
/-- .. when all of it is open. -/
def growL (d : Nat) (l : List Opn) : List Opn := l.map fun x => if x.day < d then { x with left := x.left + x.late } else x
theorem grow_open {d : Nat} : ∀ {l : List Opn}, Pos l → (∀ x ∈ l, 0 ≤ x.late) → growL d (l.filter isOpen) = (growF d l).filter isOpen
  | [], _, _ => rfl
  | x :: r, h, hl => by
    have h1 := h x (List.mem_cons_self ..)
    have h2 := hl x (List.mem_cons_self ..)
    have ih := grow_open (d := d) h.tail fun y hy => hl y (List.mem_cons_of_mem _ hy)
    have hx : growF d (x :: r) = (if x.left > 0 ∧ x.day < d then { x with left := x.left + x.late } else x) :: growF d r := rfl
    have hy : ∀ z : Opn, growL d (z :: List.filter isOpen r) = (if z.day < d then { z with left := z.left + z.late } else z) :: growL d (r.filter isOpen) := fun _ => rfl
    have yes : ∀ z : Opn, z.left > 0 → isOpen z = true := fun z hz => decide_eq_true hz
    have no : ∀ z : Opn, ¬ z.left > 0 → ¬ isOpen z = true := fun z hz => by unfold isOpen; rw [decide_eq_true_iff]; exact hz
    rw [hx]
    by_cases e : x.left > 0
    · rw [List.filter_cons_of_pos (yes x e), hy]
      by_cases e2 : x.day < d
      · rw [if_pos (show x.left > 0 ∧ x.day < d from ⟨e, e2⟩), if_pos e2, List.filter_cons_of_pos (yes _ (by show x.left + x.late > 0; omega)), ih]
      · rw [if_neg (show ¬ (x.left > 0 ∧ x.day < d) from fun z => e2 z.2), if_neg e2, List.filter_cons_of_pos (yes _ e), ih]
    · rw [if_neg (show ¬ (x.left > 0 ∧ x.day < d) from fun z => e z.1), List.filter_cons_of_neg (no _ e), List.filter_cons_of_neg (no _ e), ih]
/-- Of two lists of one shape the one has no more left, nor grows more. -/
def LeL : List Opn → List Opn → Prop
  | [], [] => True
  | x :: r, y :: s => (x.left ≤ y.left ∧ x.day = y.day ∧ x.late = y.late) ∧ LeL r s
  | _, _ => False
theorem LeL.refl : ∀ l : List Opn, LeL l l
  | [] => trivial
  | x :: r => ⟨⟨Int.le_refl _, rfl, rfl⟩, LeL.refl r⟩
theorem LeL.total : ∀ {l m : List Opn}, LeL l m → Debt10.total l ≤ Debt10.total m
  | [], [], _ => Int.le_refl _
  | x :: r, y :: s, h => by
    have h1 := h.1.1
    have h2 := LeL.total h.2
    show x.left + _ ≤ y.left + _
    omega
  | [], _ :: _, h => h.elim
  | _ :: _, [], h => h.elim
theorem LeL.pay : ∀ {l m : List Opn} {A B : Int}, LeL l m → B ≤ A → LeL (payF l A) (payF m B)
  | [], [], _, _, _, _ => trivial
  | x :: r, y :: s, A, B, h, hb => by
    have h1 := h.1.1
    exact ⟨⟨by show max 0 (x.left - A) ≤ max 0 (y.left - B); omega, h.1.2⟩, LeL.pay h.2 (by omega)⟩
  | [], _ :: _, _, _, h, _ => h.elim
  | _ :: _, [], _, _, h, _ => h.elim
theorem LeL.rest : ∀ {l m : List Opn} {A B : Int}, LeL l m → B ≤ A → restF m B ≤ restF l A
  | [], [], _, _, _, hb => hb
  | x :: r, y :: s, A, B, h, hb => by
    have h1 := h.1.1
    show restF s (max 0 (B - y.left)) ≤ restF r (max 0 (A - x.left))
    exact LeL.rest h.2 (by omega)
  | [], _ :: _, _, _, h, _ => h.elim
  | _ :: _, [], _, _, h, _ => h.elim
theorem LeL.grow {d : Nat} : ∀ {l m : List Opn}, LeL l m → Pos l → (∀ x ∈ m, 0 ≤ x.late) → LeL (growF d l) (growF d m)
  | [], [], _, _, _ => trivial
  | x :: r, y :: s, h, hp, hl => by
    obtain ⟨h1, h2, h3⟩ := h.1
    have h4 := hl y (List.mem_cons_self ..)
    have h5 := hp x (List.mem_cons_self ..)
    refine ⟨?_, LeL.grow h.2 hp.tail fun z hz => hl z (List.mem_cons_of_mem _ hz)⟩
    dsimp only
    by_cases e : x.left > 0 ∧ x.day < d
    · rw [if_pos e, if_pos ⟨by omega, by omega⟩]
      exact ⟨by show x.left + x.late ≤ y.left + y.late; omega, h2, h3⟩
    · rw [if_neg e]
      by_cases e2 : y.left > 0 ∧ y.day < d
      · rw [if_pos e2]; exact ⟨by show x.left ≤ y.left + y.late; omega, h2, h3⟩
      · rw [if_neg e2]; exact ⟨h1, h2, h3⟩
  | [], _ :: _, h, _, _ => h.elim
  | _ :: _, [], h, _, _ => h.elim
theorem LeL.app : ∀ {l m l' m' : List Opn}, LeL l m → LeL l' m' → LeL (l ++ l') (m ++ m')
  | [], [], _, _, _, h => h
  | _ :: _, _ :: _, _, _, h, k => ⟨h.1, LeL.app h.2 k⟩
  | [], _ :: _, _, _, h, _ => h.elim
  | _ :: _, [], _, _, h, _ => h.elim
end Debt10


namespace Debt10
variable (D : Debt) (am pa : Nat → Int) (who : Int)
abbrev isNew (d i : Nat) : Bool := decide ((D.dues.getD i default).who = who ∧ (D.dues.getD i default).day = d)
def newOp (d i : Nat) : Opn := ⟨i, d, am i, (D.dues.getD i default).late⟩
/-- The dues of a day, of those before the n-th. -/
def newTo (d : Nat) : Nat → List Opn
  | 0 => []
  | n + 1 => newTo d n ++ if isNew D who d n = true then [newOp D am d n] else []
def paidTo (d : Nat) : Nat → Int
  | 0 => 0
  | n + 1 => paidTo d n + if (D.paid.getD n default).who = who ∧ (D.paid.getD n default).day = d then pa n else 0
abbrev newF (d : Nat) : List Opn := newTo D am who d D.dues.length
abbrev paidS (d : Nat) : Int := paidTo D pa who d D.paid.length
/-- What is open, and ahead, when a day begins. -/
def acc0 : Nat → List Opn × Int
  | 0 => ([], 0)
  | d + 1 => (growF d (payF ((acc0 d).1 ++ newF D am who d) ((acc0 d).2 + paidS D pa who d)), restF ((acc0 d).1 ++ newF D am who d) ((acc0 d).2 + paidS D pa who d))
/-- .. of a day, before what is late grows. -/
def accB (d : Nat) : List Opn × Int := (payF ((acc0 D am pa who d).1 ++ newF D am who d) ((acc0 D am pa who d).2 + paidS D pa who d), restF ((acc0 D am pa who d).1 ++ newF D am who d) ((acc0 D am pa who d).2 + paidS D pa who d))
/-- What holds of all that is open. -/
structure Fit (D : Debt) (c : Int) (l : List Opn) : Prop where
  pos : Pos l
  late : ∀ x ∈ l, 0 ≤ x.late ∧ x.late ≤ 10
  num : ∀ x ∈ l, x.number < D.dues.length
  top : ∀ x ∈ l, x.left ≤ c
theorem Fit.nil (D : Debt) (c : Int) : Fit D c [] := by
  constructor <;> (intro x h; cases h)
theorem Fit.app {D : Debt} {c : Int} {l m : List Opn} (h : Fit D c l) (k : Fit D c m) : Fit D c (l ++ m) :=
  ⟨fun x hx => (List.mem_append.1 hx).elim (h.pos x) (k.pos x), fun x hx => (List.mem_append.1 hx).elim (h.late x) (k.late x), fun x hx => (List.mem_append.1 hx).elim (h.num x) (k.num x), fun x hx => (List.mem_append.1 hx).elim (h.top x) (k.top x)⟩
theorem pay_mem : ∀ {l : List Opn} {A : Int} {x : Opn}, Pos l → 0 ≤ A → x ∈ payF l A → ∃ y ∈ l, x.number = y.number ∧ x.day = y.day ∧ x.late = y.late ∧ x.left ≤ y.left
  | [], _, _, _, _, h => by cases h
  | y :: r, A, x, hp, hA, h => by
    rcases List.mem_cons.1 h with rfl | h
    · have := hp y (List.mem_cons_self ..)
      exact ⟨y, List.mem_cons_self .., rfl, rfl, rfl, by show max 0 (y.left - A) ≤ y.left; omega⟩
    · obtain ⟨z, hz, e⟩ := pay_mem hp.tail (show 0 ≤ max 0 (A - y.left) by omega) h
      exact ⟨z, List.mem_cons_of_mem _ hz, e⟩
theorem Fit.pay {D : Debt} {c A : Int} {l : List Opn} (h : Fit D c l) (hA : 0 ≤ A) : Fit D c (payF l A) :=
  ⟨pay_pos l A, fun x hx => by obtain ⟨y, hy, _, _, e, _⟩ := pay_mem h.pos hA hx; rw [e]; exact h.late y hy, fun x hx => by obtain ⟨y, hy, e, _⟩ := pay_mem h.pos hA hx; rw [e]; exact h.num y hy,
    fun x hx => by obtain ⟨y, hy, _, _, _, e⟩ := pay_mem h.pos hA hx; exact Int.le_trans e (h.top y hy)⟩
theorem Fit.grow {D : Debt} {c : Int} {l : List Opn} {d : Nat} (h : Fit D c l) : Fit D (c + 10) (growF d l) := by
  have key : ∀ x ∈ growF d l, ∃ y ∈ l, x.number = y.number ∧ x.late = y.late ∧ y.left ≤ x.left ∧ x.left ≤ y.left + 10 := fun x hx => by
    obtain ⟨y, hy, rfl⟩ := List.mem_map.1 hx
    have h1 := h.late y hy
    refine ⟨y, hy, ?_⟩
    split
    · exact ⟨rfl, rfl, by show y.left ≤ y.left + y.late; omega, by show y.left + y.late ≤ _; omega⟩
    · exact ⟨rfl, rfl, Int.le_refl _, by omega⟩
  refine ⟨fun x hx => ?_, fun x hx => ?_, fun x hx => ?_, fun x hx => ?_⟩
  · obtain ⟨y, hy, _, _, e, _⟩ := key x hx; exact Int.le_trans (h.pos y hy) e
  · obtain ⟨y, hy, _, e, _⟩ := key x hx; rw [e]; exact h.late y hy
  · obtain ⟨y, hy, e, _⟩ := key x hx; rw [e]; exact h.num y hy
  · obtain ⟨y, hy, _, _, _, e⟩ := key x hx; have := h.top y hy; omega
theorem Fit.mono {D : Debt} {c c' : Int} {l : List Opn} (h : Fit D c l) (hc : c ≤ c') : Fit D c' l := ⟨h.pos, h.late, h.num, fun x hx => Int.le_trans (h.top x hx) hc⟩
section
variable {D am pa who}
variable (hg : GoodD D) (ham : ∀ i, i < D.dues.length → 0 ≤ am i ∧ am i ≤ 500) (hpa : ∀ i, i < D.paid.length → 0 ≤ pa i ∧ pa i ≤ 500)
include hg ham in
theorem new_fit {d : Nat} : ∀ {n : Nat}, n ≤ D.dues.length → Fit D 500 (newTo D am who d n)
  | 0, _ => Fit.nil _ _
  | n + 1, hn => by
    refine (new_fit (by omega)).app ?_
    split
    · obtain ⟨_, _, _, h4⟩ := hg.dues n (by omega)
      have h5 := ham n (by omega)
      refine ⟨fun x hx => ?_, fun x hx => ?_, fun x hx => ?_, fun x hx => ?_⟩ <;> (rw [List.mem_singleton] at hx; subst hx)
      · exact h5.1
      · exact h4
      · show n < _; omega
      · exact h5.2
    · exact Fit.nil _ _
include hpa in
theorem paid_bd {d : Nat} : ∀ {n : Nat}, n ≤ D.paid.length → 0 ≤ paidTo D pa who d n ∧ paidTo D pa who d n ≤ 500 * (n : Int)
  | 0, _ => ⟨Int.le_refl _, by show (0 : Int) ≤ _; omega⟩
  | n + 1, hn => by
    have h1 := paid_bd (d := d) (n := n) (by omega)
    have h2 := hpa n (by omega)
    show 0 ≤ paidTo D pa who d n + _ ∧ paidTo D pa who d n + _ ≤ _
    split <;> omega
theorem rest_bd : ∀ {l : List Opn} {A : Int}, Pos l → 0 ≤ A → 0 ≤ restF l A ∧ restF l A ≤ A
  | [], A, _, h => ⟨h, Int.le_refl _⟩
  | x :: r, A, hp, h => by
    have h1 := hp x (List.mem_cons_self ..)
    have h2 := rest_bd (A := max 0 (A - x.left)) hp.tail (by omega)
    show 0 ≤ restF r _ ∧ restF r _ ≤ A
    omega
include hg ham hpa in
/-- All accounts are in order. -/
theorem acc_fit : ∀ d : Nat, Fit D (500 + 10 * (d : Int)) (acc0 D am pa who d).1 ∧ 0 ≤ (acc0 D am pa who d).2 ∧ (acc0 D am pa who d).2 ≤ 3000 * (d : Int)
  | 0 => ⟨Fit.nil _ _, Int.le_refl _, by show (0 : Int) ≤ _; omega⟩
  | d + 1 => by
    obtain ⟨h1, h2, h3⟩ := acc_fit d
    have h4 := (h1.app ((new_fit (who := who) hg ham (d := d) (Nat.le_refl _)).mono (show (500 : Int) ≤ 500 + 10 * (d : Int) by omega)))
    have h5 : 0 ≤ paidS D pa who d ∧ paidS D pa who d ≤ 500 * (D.paid.length : Int) := paid_bd hpa (Nat.le_refl _)
    have h6 := rest_bd (A := (acc0 D am pa who d).2 + paidS D pa who d) h4.pos (by omega)
    have hny := hg.ny
    refine ⟨(((h4.pay (A := (acc0 D am pa who d).2 + paidS D pa who d) (by omega)).grow).mono (by omega)), h6.1, ?_⟩
    refine Int.le_trans h6.2 ?_
    have : (D.paid.length : Int) ≤ 6 := by omega
    omega
end
end Debt10


namespace Debt10
/-- Two accounts, day by day, of which the one has no more owed, and no less brought. -/
theorem acc_le {D E : Debt} {am am' pa pa' : Nat → Int} {who who' : Int} (hn : ∀ d, LeL (newF D am who d) (newF E am' who' d)) (hp : ∀ d, paidS E pa' who' d ≤ paidS D pa who d) (hl : ∀ d, ∀ x ∈ (accB E am' pa' who' d).1, 0 ≤ x.late) : ∀ d, LeL (acc0 D am pa who d).1 (acc0 E am' pa' who' d).1 ∧ (acc0 E am' pa' who' d).2 ≤ (acc0 D am pa who d).2
  | 0 => ⟨trivial, Int.le_refl _⟩
  | d + 1 => by
    obtain ⟨h1, h2⟩ := acc_le hn hp hl d
    have h3 := hp d
    have h4 := h1.app (hn d)
    have h5 : (acc0 E am' pa' who' d).2 + paidS E pa' who' d ≤ (acc0 D am pa who d).2 + paidS D pa who d := Int.add_le_add h2 h3
    exact ⟨(h4.pay h5).grow (pay_pos _ _) (hl d), h4.rest h5⟩
theorem accB_le {D E : Debt} {am am' pa pa' : Nat → Int} {who who' : Int} (hn : ∀ d, LeL (newF D am who d) (newF E am' who' d)) (hp : ∀ d, paidS E pa' who' d ≤ paidS D pa who d) (hl : ∀ d, ∀ x ∈ (accB E am' pa' who' d).1, 0 ≤ x.late) (d : Nat) : LeL (accB D am pa who d).1 (accB E am' pa' who' d).1 ∧ (accB E am' pa' who' d).2 ≤ (accB D am pa who d).2 := by
  obtain ⟨h1, h2⟩ := acc_le hn hp hl d
  have h4 := h1.app (hn d)
  have h5 : (acc0 E am' pa' who' d).2 + paidS E pa' who' d ≤ (acc0 D am pa who d).2 + paidS D pa who d := Int.add_le_add h2 (hp d)
  exact ⟨h4.pay h5, h4.rest h5⟩
/-! ### the two ends, and the truths between them -/
section
variable {D : Debt} (hg : GoodD D)
include hg
theorem accB_fit {am pa : Nat → Int} {who : Int} (ham : ∀ i, i < D.dues.length → 0 ≤ am i ∧ am i ≤ 500) (hpa : ∀ i, i < D.paid.length → 0 ≤ pa i ∧ pa i ≤ 500) (d : Nat) : Fit D (500 + 10 * (d : Int)) (accB D am pa who d).1 ∧ 0 ≤ (accB D am pa who d).2 := by
  obtain ⟨h1, h2, _⟩ := acc_fit (who := who) hg ham hpa d
  have h4 := h1.app ((new_fit (who := who) hg ham (d := d) (Nat.le_refl _)).mono (show (500 : Int) ≤ 500 + 10 * (d : Int) by omega))
  have h5 : 0 ≤ paidS D pa who d ∧ paidS D pa who d ≤ 500 * (D.paid.length : Int) := paid_bd hpa (Nat.le_refl _)
  have h6 : 0 ≤ (acc0 D am pa who d).2 + paidS D pa who d := by omega
  exact ⟨h4.pay h6, (rest_bd h4.pos h6).1⟩
end
end Debt10


namespace Debt10
/-- The numbers of what is open, in order. -/
def nums (l : List Opn) : List Nat := l.map (·.number)
theorem nums_pay : ∀ (l : List Opn) (A : Int), nums (payF l A) = nums l
  | [], _ => rfl
  | x :: r, A => by
    show x.number :: nums (payF r _) = x.number :: nums r
    rw [nums_pay r]
theorem nums_grow (d : Nat) : ∀ l : List Opn, nums (growF d l) = nums l
  | [] => rfl
  | x :: r => by
    show (if x.left > 0 ∧ x.day < d then { x with left := x.left + x.late } else x).number :: nums (growF d r) = x.number :: nums r
    rw [nums_grow d r]
    split <;> rfl
theorem nums_app (l m : List Opn) : nums (l ++ m) = nums l ++ nums m := List.map_append
/-- The numbers of a day's dues, of those before the n-th. -/
def newN (D : Debt) (who : Int) (d : Nat) : Nat → List Nat
  | 0 => []
  | n + 1 => newN D who d n ++ if isNew D who d n = true then [n] else []
theorem nums_new (D : Debt) (am : Nat → Int) (who : Int) (d : Nat) : ∀ n, nums (newTo D am who d n) = newN D who d n
  | 0 => rfl
  | n + 1 => by
    show nums (newTo D am who d n ++ _) = newN D who d n ++ _
    rw [nums_app, nums_new]
    split <;> rfl
/-- The order in which a person's dues are settled, of days before d. -/
def ordN (D : Debt) (who : Int) : Nat → List Nat
  | 0 => []
  | d + 1 => ordN D who d ++ newN D who d D.dues.length
theorem nums_acc (D : Debt) (am pa : Nat → Int) (who : Int) : ∀ d, nums (acc0 D am pa who d).1 = ordN D who d
  | 0 => rfl
  | d + 1 => by
    show nums (growF d (payF ((acc0 D am pa who d).1 ++ newF D am who d) _)) = ordN D who d ++ _
    rw [nums_grow, nums_pay, nums_app, nums_acc, nums_new]
theorem mem_newN {D : Debt} {who : Int} {d i : Nat} : ∀ {n : Nat}, i ∈ newN D who d n ↔ i < n ∧ isNew D who d i = true
  | 0 => by
    constructor
    · intro h; cases h
    · rintro ⟨h, _⟩; omega
  | n + 1 => by
    show i ∈ newN D who d n ++ _ ↔ _
    rw [List.mem_append, mem_newN]
    constructor
    · rintro (⟨h1, h2⟩ | h)
      · exact ⟨by omega, h2⟩
      · split at h
        · rename_i hn
          rw [List.mem_singleton] at h
          subst h
          exact ⟨by omega, hn⟩
        · cases h
    · rintro ⟨h1, h2⟩
      by_cases e : i = n
      · subst e; rw [if_pos h2]; exact .inr (List.mem_singleton.2 rfl)
      · exact .inl ⟨by omega, h2⟩
theorem mem_ordN {D : Debt} {who : Int} {i : Nat} : ∀ {d : Nat}, i ∈ ordN D who d ↔ ∃ e, e < d ∧ i < D.dues.length ∧ isNew D who e i = true
  | 0 => by
    constructor
    · intro h; cases h
    · rintro ⟨e, h, _⟩; omega
  | d + 1 => by
    show i ∈ ordN D who d ++ _ ↔ _
    rw [List.mem_append, mem_ordN, mem_newN]
    constructor
    · rintro (⟨e, h1, h2⟩ | h)
      · exact ⟨e, by omega, h2⟩
      · exact ⟨d, by omega, h⟩
    · rintro ⟨e, h1, h2⟩
      by_cases x : e = d
      · subst x; exact .inr h2
      · exact .inl ⟨e, by omega, h2⟩
end Debt10


namespace Debt10
theorem newN_nodup (D : Debt) (who : Int) (d : Nat) : ∀ n, (newN D who d n).Nodup
  | 0 => List.nodup_nil
  | n + 1 => by
    refine List.nodup_append.2 ⟨newN_nodup D who d n, ?_, ?_⟩
    · split
      · exact List.nodup_cons.2 ⟨by simp, List.nodup_nil⟩
      · exact List.nodup_nil
    · intro a ha b hb hab
      subst hab
      have h1 := (mem_newN.1 ha).1
      split at hb
      · rw [List.mem_singleton] at hb; omega
      · cases hb
theorem ordN_nodup (D : Debt) (who : Int) : ∀ d, (ordN D who d).Nodup
  | 0 => List.nodup_nil
  | d + 1 => by
    refine List.nodup_append.2 ⟨ordN_nodup D who d, newN_nodup D who d _, ?_⟩
    intro a ha b hb hab
    subst hab
    obtain ⟨e, he, _, h1⟩ := mem_ordN.1 ha
    have h2 := (mem_newN.1 hb).2
    have h3 := of_decide_eq_true h1
    have h4 := of_decide_eq_true h2
    omega
theorem acc_nodup (D : Debt) (am pa : Nat → Int) (who : Int) (d : Nat) : (nums (acc0 D am pa who d).1).Nodup := by
  rw [nums_acc]; exact ordN_nodup D who d
end Debt10


namespace Go.G
variable {P : Program} {W : World} {n : Nat} {D : List Deferred} {L : Tm} {M : List Res} {R : List Fact} {Q : Exit → Act → World → Prop} {o : Oper}
/-- No panic. -/
def NoP (Q : Exit → Act → World → Prop) : Exit → Act → World → Prop := fun e a w => match e with | .normal => Q .normal a w | _ => False
theorem r_nop (h : Imp W n D L M R (Q .normal)) : Imp W n D L M R (NoP Q .normal) := h
/-- It waits for those of a list too. -/
def addE (fl : List Nat) (o : Oper) : Oper := { o with after := o.after ++ (fl.map fun i => (⟨i, .phase⟩ : Edge)).toArray }
/-- The tail waits for those of a list. -/
def floatL (fl : List Nat) (m : Nat) (l : List Oper) : List Oper := l.take m ++ (l.drop m).map (addE fl)
theorem floatL_at (fl : List Nat) (m : Nat) (l : List Oper) (j : Nat) : (floatL fl m l)[j]? = (l[j]?).map fun o => if j < m then o else addE fl o := by
  unfold floatL
  by_cases h : j < m
  · by_cases hl : j < l.length
    · rw [List.getElem?_append_left (by rw [List.length_take]; omega), List.getElem?_take, if_pos h]
      simp [h]
    · rw [List.getElem?_eq_none (by rw [List.length_append, List.length_take, List.length_map, List.length_drop]; omega), List.getElem?_eq_none (by omega)]; rfl
  · by_cases hm : m ≤ l.length
    · rw [List.getElem?_append_right (by rw [List.length_take]; omega), List.length_take, Nat.min_eq_left hm, List.getElem?_map, List.getElem?_drop, show m + (j - m) = j from by omega]
      simp [h]
    · rw [List.getElem?_eq_none (by rw [List.length_append, List.length_take, List.length_map, List.length_drop]; omega), List.getElem?_eq_none (by omega)]; rfl
theorem floatL_len (fl : List Nat) (m : Nat) (l : List Oper) : (floatL fl m l).length = l.length := by
  unfold floatL
  rw [List.length_append, List.length_take, List.length_map, List.length_drop]; omega
section
variable {fl : List Nat} {m : Nat} {l : List Oper}
theorem float_ready {listed : Array Bool} (hi : ∀ i ∈ fl, listed.getD i false = true) {j : Nat} : j ∈ Region.ready .any (floatL fl m l).toArray listed ↔ j ∈ Region.ready .any l.toArray listed := by
  rw [mem_ready, mem_ready]
  constructor
  · rintro ⟨h0, o, ho, h⟩
    rw [List.getElem?_toArray, floatL_at] at ho
    cases hl : l[j]? with
    | none => rw [hl] at ho; cases ho
    | some p =>
      rw [hl] at ho
      simp only [Option.map_some, Option.some.injEq] at ho
      refine ⟨h0, p, by simpa using hl, fun e he hb => h e ?_ hb⟩
      subst ho
      split
      · exact he
      · unfold addE; exact Array.mem_append_left _ he
  · rintro ⟨h0, o, ho, h⟩
    have ho : l[j]? = some o := by simpa using ho
    refine ⟨h0, if j < m then o else addE fl o, by rw [List.getElem?_toArray, floatL_at, ho]; rfl, fun e he hb => ?_⟩
    split at he
    · exact h e he hb
    · unfold addE at he
      rcases Array.mem_append.1 he with he | he
      · exact h e he hb
      · simp only [List.mem_toArray, List.mem_map] at he
        obtain ⟨i, hi', rfl⟩ := he
        exact hi i hi'
theorem float_yielded (tmps : Array Value) : yielded (floatL fl m l).toArray tmps = yielded l.toArray tmps := by
  funext j
  unfold yielded
  rw [List.getElem?_toArray, floatL_at, List.getElem?_toArray]
  cases l[j]? with
  | none => rfl
  | some o =>
    by_cases h : j < m
    · simp only [Option.map_some, if_pos h]
    · simp only [Option.map_some, if_neg h]; rfl
theorem float_op {j : Nat} {K : Act → World → Prop} {a : Act} {w : World} (h : wpOp P (floatL fl m l).toArray Q j K a w) : wpOp P l.toArray Q j K a w := by
  unfold wpOp at *
  rw [List.getElem?_toArray, floatL_at, float_yielded] at h
  rw [List.getElem?_toArray]
  cases hl : l[j]? with
  | none => rw [hl] at h; exact h
  | some o =>
    rw [hl] at h
    simp only [Option.map_some] at h ⊢
    split at h
    · exact h
    · exact h
theorem float_any : ∀ (fuel : Nat) (listed : Array Bool) (a : Act) (w : World), (∀ i ∈ fl, listed.getD i false = true) → wpAny P .any (floatL fl m l).toArray Q fuel listed a w → wpAny P .any l.toArray Q fuel listed a w
  | 0, listed, a, w, hi, h => by
    refine ⟨?_, h.2⟩
    cases hr : Region.ready .any l.toArray listed with
    | nil => rfl
    | cons x xs =>
      have : x ∈ Region.ready .any (floatL fl m l).toArray listed := (float_ready hi).2 (by rw [hr]; simp)
      rw [h.1] at this; cases this
  | fuel + 1, listed, a, w, hi, h => by
    refine ⟨fun hr => h.1 ?_, fun j hj => float_op (wpOp_mono (fun a' w' h' => float_any fuel _ a' w' (fun i hi' => getD_set_true (hi i hi')) h') (h.2 j ((float_ready hi).2 hj)))⟩
    cases hr' : Region.ready .any (floatL fl m l).toArray listed with
    | nil => rfl
    | cons x xs =>
      have : x ∈ Region.ready .any l.toArray listed := (float_ready hi).1 (by rw [hr']; simp)
      rw [hr] at this; cases this
end
theorem frame_at {free tail : List Oper} {ss : List Spc} (hpb : parB free tail = true) (hl : ss.length = free.length) (hfr : ∀ o ∈ free, look L (o.dst.getD 1000000) = none) (hL : LateOK (free ++ tail).toArray ss) (hab : ∀ (i : Nat) (s : Spc) (c : List PanicEntry), ss[i]? = some s → s.ab = some c → Imp W n D L M R (Q (.panic c)))
    (hstep : ∀ i o s, free[i]? = some o → ss[i]? = some s → Step1 P W n M R (free ++ tail).toArray ss i o s (detL (free.take i) (ss.take i) L))
    {listed : Array Bool} {a : Act} {w : World} (hJ : J W n D L M R (free ++ tail).toArray free ss listed a w) {i : Nat} {o : Oper} (ho : free[i]? = some o) (hp : ∀ e ∈ o.after, Region.binds .any e = true → listed.getD e.on false = true) :
    ∃ a' g, FSat n (detL (free.take i) (ss.take i) L) a' ∧ execOp a.eval o = execOp a'.eval o ∧ (∀ i o s, free[i]? = some o → ss[i]? = some s → listed.getD i false = true → s.val (g i) ∧ (∀ d, o.dst = some d → a.tmps[d]? = some (g i))) ∧ St W (resOf ss listed g free.length ++ M) (fctOf ss listed g free.length ++ R) w := by
  simp only [parB, Bool.and_eq_true] at hpb
  obtain ⟨⟨⟨⟨hns, hfree⟩, hnd0⟩, hback⟩, htail⟩ := hpb
  have hnd := injB_sound hnd0
  have hmN : free.length ≤ (free ++ tail).length := by simp
  have hmask : ∀ listed', Closed (free ++ tail).toArray listed' → ∀ i o, free.length ≤ i → (free ++ tail).toArray[i]? = some o → (∀ e ∈ o.after, Region.binds .any e = true → listed'.getD e.on false = true) → ∀ j, j < i → listed'.getD j false = true := by
    intro listed' hc i o hi ho hp j hj
    have hlt : i < (free ++ tail).length := by simpa using (Array.getElem?_eq_some_iff.1 ho).1
    have h1 := List.all_eq_true.1 htail i (List.mem_range.2 hlt)
    simp only [Bool.or_eq_true] at h1
    rcases h1 with h1 | h1
    · have : i < free.length := by simpa using h1
      omega
    · have h2 := List.all_eq_true.1 h1 j (List.mem_range.2 hj)
      exact (masks_sound hc (free ++ tail) [] (fun j => by simp) (fun i hi => by simp at hi)).1 i o (Nat.zero_le _) ho hp j h2
  have hbk : ∀ i o, (free ++ tail).toArray[i]? = some o → ∀ e ∈ o.after, Region.binds .any e = true → e.on < i := by
    intro i o ho e he hbi
    have hlt : i < (free ++ tail).length := by simpa using (Array.getElem?_eq_some_iff.1 ho).1
    have := List.all_eq_true.1 hback i (List.mem_range.2 hlt)
    rw [show (free ++ tail)[i]? = some o from by simpa using ho] at this
    have := Array.all_eq_true_iff_forall_mem.1 this e he
    simpa [hbi] using this
  have him : i < free.length := (List.getElem?_eq_some_iff.1 ho).1
  have hoi : (free ++ tail).toArray[i]? = some o := by
    rw [List.getElem?_toArray, List.getElem?_append_left him]; exact ho
  have hsi : i < ss.length := by omega
  have hs : ss[i]? = some ss[i] := List.getElem?_eq_getElem hsi
  have st := hstep i o ss[i] ho hs
  obtain ⟨fops, fgd⟩ := freeB_spec hfree ho
  obtain ⟨a', f1, f2, f3⟩ := mk_frame (n := n) (free.take i) (ss.take i) hJ.frame (fun j p sj e1 e2 => by
    have hji : j < i := by have := (List.getElem?_eq_some_iff.1 e1).1; simp at this; omega
    rw [List.getElem?_take, if_pos hji] at e1 e2
    exact (hstep j p sj e1 e2).lt) (hnd.take i)
  obtain ⟨g, hg, hS⟩ := hJ.vals
  have hag : ∀ t, (∀ j p, free[j]? = some p → p.dst.getD 1000000 = t → j < i → listed.getD j false = true) → a'.tmps[t]? = a.tmps[t]? := by
    intro t ht
    by_cases hex2 : ∃ (j : Nat) (p : Oper) (s : Spc) (v : Value), (free.take i)[j]? = some p ∧ (ss.take i)[j]? = some s ∧ s.det = some v ∧ p.dst.getD 1000000 = t
    · obtain ⟨j, p, s, v, e1, e2, e3, e4⟩ := hex2
      have hji : j < i := by have := (List.getElem?_eq_some_iff.1 e1).1; simp at this; omega
      have e1' : free[j]? = some p := by rw [List.getElem?_take, if_pos hji] at e1; exact e1
      have e2' : ss[j]? = some s := by rw [List.getElem?_take, if_pos hji] at e2; exact e2
      have hlj := ht j p e1' e4 hji
      obtain ⟨k1, k2⟩ := hg j p s e1' e2' hlj
      have hgv : g j = v := by simpa [Spc.val, e3] using k1
      obtain ⟨dj, hdj⟩ : ∃ d, p.dst = some d := by
        have := (hstep j p s e1' e2').lt
        cases hod : p.dst with
        | none => rw [hod, e3] at this; simp at this
        | some d => exact ⟨d, rfl⟩
      rw [← e4, f3 j p s v e1 e2 e3, show p.dst.getD 1000000 = dj from by simp [hdj], k2 dj hdj, hgv]
    · exact f2 t (fun j p s v e1 e2 e3 e4 => hex2 ⟨j, p, s, v, e1, e2, e3, e4⟩)
  have hev : ∀ x ∈ o.op.operands, a.eval x = a'.eval x := by
    intro x hx
    cases x with
    | tmp t =>
      have := hag t (fun j p e1 e2 _ => by
        obtain ⟨e, he, hbi, hon⟩ := depOn_spec (fops j p e1 (by
          rw [e2]; unfold tmpsOf
          exact List.mem_filterMap.2 ⟨.tmp t, by simpa using hx, rfl⟩))
        have := hp e he hbi
        rwa [hon] at this)
      simp [Act.eval, this]
    | const v => rfl
    | global v => rfl
    | func v => rfl
  have hex3 : execOp a.eval o = execOp a'.eval o := execOp_congr o (Region.noSelect_spec hns i o · · hoi) hev
  exact ⟨a', g, f1, hex3, hg, hS⟩
/-- Those that may be drawn late look at the frame alone. -/
def FlOK (P : Program) (n : Nat) (L : Tm) (free : List Oper) (ss : List Spc) : List Nat → Prop
  | [] => True
  | i :: r => (∃ (o : Oper) (v : Value) (d : Nat), free[i]? = some o ∧ ss[i]? = some (Spc.q v) ∧ o.guard = none ∧ o.dst = some d ∧ Nat.blt d n = true ∧ ∀ a, FSat n (detL (free.take i) (ss.take i) L) a → ∀ w, (execOp a.eval o).run P w = .ok (.value v) w) ∧ FlOK P n L free ss r
theorem FlOK.at {free : List Oper} {ss : List Spc} : ∀ {fl : List Nat}, FlOK P n L free ss fl → ∀ i ∈ fl, ∃ (o : Oper) (v : Value) (d : Nat), free[i]? = some o ∧ ss[i]? = some (Spc.q v) ∧ o.guard = none ∧ o.dst = some d ∧ Nat.blt d n = true ∧ ∀ a, FSat n (detL (free.take i) (ss.take i) L) a → ∀ w, (execOp a.eval o).run P w = .ok (.value v) w
  | [], _, _, h => by cases h
  | j :: r, ⟨h1, h2⟩, i, hi => by
    rcases List.mem_cons.1 hi with rfl | hi
    · exact h1
    · exact FlOK.at h2 i hi
/-- The tail waits for all but those of a list. -/
def tailF (fl : List Nat) (ms : List Nat) (m N : Nat) : Bool := (List.range N).all fun t => Nat.blt t m || (List.range t).all fun j => fl.contains j || (ms.getD t 0).testBit j
def freeAt (l : List Oper) (i : Nat) : Bool :=
  match l[i]? with
  | none => false
  | some oi => (List.range l.length).all fun j => j == i || depOn oi j || match l[j]? with
      | some oj => oj.after.any (fun e => Region.binds .any e && e.on == i) || oi.apart l.toArray oj
      | none => true
def freesB (l : List Oper) (fl : List Nat) : Bool := fl.all (freeAt l)
theorem freeAt_spec {l : List Oper} {i : Nat} {oi : Oper} (hi : l[i]? = some oi) (h : freeAt l i = true) {listed : Array Bool} (hp : ∀ e ∈ oi.after, Region.binds .any e = true → listed.getD e.on false = true) (j : Nat) (oj : Oper)
    (hj : l.toArray[j]? = some oj) (hne : j ≠ i) (hun : listed.getD j true = false) (hno : ∀ e ∈ oj.after, Region.binds .any e = true → e.on ≠ i) : oi.apart l.toArray oj = true := by
  have hj : l[j]? = some oj := by simpa using hj
  simp only [freeAt, hi] at h
  have h1 := List.all_eq_true.1 h j (List.mem_range.2 (List.getElem?_eq_some_iff.1 hj).1)
  simp only [hj, Bool.or_eq_true, beq_iff_eq, hne, false_or] at h1
  rcases h1 with h1 | h1 | h1
  · obtain ⟨e, he, hb, hon⟩ := depOn_spec h1
    have := hp e he hb
    rw [hon] at this
    rcases Nat.lt_or_ge j listed.size with h' | h'
    · simp [h'] at hun this; rw [hun] at this; cases this
    · simp [Array.getElem?_eq_none h'] at this
  · obtain ⟨e, he, hb⟩ := Array.any_eq_true'.1 h1
    simp only [Bool.and_eq_true, beq_iff_eq] at hb
    exact absurd hb.2 (hno e he hb.1)
  · exact h1
theorem float_all {fl : List Nat} {m : Nat} {l : List Oper} (hml : m ≤ l.length) {ss : List Spc} (hpb : parB ((floatL fl m l).take m) ((floatL fl m l).drop m) = true) (hlen : ss.length = ((floatL fl m l).take m).length) (hfr : ∀ o ∈ (floatL fl m l).take m, look L (o.dst.getD 1000000) = none) (hL : LateOK (floatL fl m l).toArray ss)
    (hab : ∀ (i : Nat) (s : Spc) (c : List PanicEntry), ss[i]? = some s → s.ab = some c → Imp W n D L M R (NoP Q (.panic c)))
    (hstep : ∀ i o s, ((floatL fl m l).take m)[i]? = some o → ss[i]? = some s → Step1 P W n M R (floatL fl m l).toArray ss i o s (detL (((floatL fl m l).take m).take i) (ss.take i) L))
    (hfin : Fin W n D (wpList P (floatL fl m l).toArray (NoP Q) ((floatL fl m l).drop m)) ((floatL fl m l).take m) ss L M R)
    (hfl : FlOK P n L ((floatL fl m l).take m) ss fl) (hns : Region.noSelect l.toArray = true) (hbk : backB l = true) (htl : tailF fl (masks l []) m l.length = true) (hfs : freesB l fl = true) :
    ∀ (fuel : Nat) (listed : Array Bool) (a : Act) (w : World), J W n D L M R (floatL fl m l).toArray ((floatL fl m l).take m) ss listed a w → unl l.length listed ≤ fuel → wpAny P .any l.toArray (NoP Q) fuel listed a w := by
  have hflat := hfl.at
  have hFat := floatL_at fl m l
  have hFlen := floatL_len fl m l
  generalize hF : floatL fl m l = F at *
  have hsplit : F.take m ++ F.drop m = F := List.take_append_drop m F
  have hmF : (F.take m).length = m := by rw [List.length_take]; omega
  have hlow : ∀ j, j < m → F[j]? = l[j]? := fun j hj => by
    rw [hFat j]; cases l[j]? with
    | none => rfl
    | some o => simp [hj]
  have hfree : ∀ j, j < m → (F.take m)[j]? = l[j]? := fun j hj => by rw [List.getElem?_take, if_pos hj, hlow j hj]
  have hlate : LateOK (F.take m ++ F.drop m).toArray ss := by rw [hsplit]; exact hL
  have hst' : ∀ i o s, (F.take m)[i]? = some o → ss[i]? = some s → Step1 P W n M R (F.take m ++ F.drop m).toArray ss i o s (detL ((F.take m).take i) (ss.take i) L) := by rw [hsplit]; exact hstep
  have hclosed : ∀ listed, Closed F.toArray listed → Closed l.toArray listed := fun listed hc j o ho hj e he hb => by
    have ho : l[j]? = some o := by simpa using ho
    refine hc j (if j < m then o else addE fl o) (by rw [List.getElem?_toArray, hFat, ho]; rfl) hj e ?_ hb
    split
    · exact he
    · unfold addE; exact Array.mem_append_left _ he
  have hback : ∀ i o, l[i]? = some o → ∀ e ∈ o.after, Region.binds .any e = true → e.on < i := by
    intro i o ho e he hbi
    have hlt : i < l.length := (List.getElem?_eq_some_iff.1 ho).1
    have := List.all_eq_true.1 hbk i (List.mem_range.2 hlt)
    rw [ho] at this
    have := Array.all_eq_true_iff_forall_mem.1 this e he
    simpa [hbi] using this
  intro fuel
  induction fuel with
  | zero =>
    intro listed a w hJ hu
    have hsz : listed.size = l.length := by rw [hJ.size]; simp [hFlen]
    have hall : ∀ i ∈ fl, listed.getD i false = true := fun i hi => by
      obtain ⟨o, v, d, ho, _⟩ := hflat i hi
      have hi' : i < m := by have := (List.getElem?_eq_some_iff.1 ho).1; omega
      cases h : listed.getD i true with
      | true =>
        have : i < listed.size := by omega
        simp [this] at h ⊢; exact h
      | false =>
        have := unl_set (N := l.length) (i := i) (by omega) hsz h
        omega
    refine float_any (fl := fl) (m := m) 0 listed a w hall ?_
    rw [hF, ← hsplit]
    replace hJ : J W n D L M R (F.take m ++ F.drop m).toArray (F.take m) ss listed a w := by rw [hsplit]; exact hJ
    exact par_any hpb hlen hfr hlate hab hst' (by rw [hsplit]; exact hfin) 0 listed a w hJ (by rw [hsplit, hFlen]; exact hu)
  | succ fuel ih =>
    intro listed a w hJ hu
    have hsz : listed.size = l.length := by rw [hJ.size]; simp [hFlen]
    have hboth : ∀ j, j < l.length → listed.getD j true = listed.getD j false := fun j hj => by
      have : j < listed.size := by omega
      simp [this]
    by_cases hall : ∀ i ∈ fl, listed.getD i false = true
    · refine float_any (fl := fl) (m := m) (fuel + 1) listed a w hall ?_
      rw [hF, ← hsplit]
      replace hJ : J W n D L M R (F.take m ++ F.drop m).toArray (F.take m) ss listed a w := by rw [hsplit]; exact hJ
      exact par_any hpb hlen hfr hlate hab hst' (by rw [hsplit]; exact hfin) (fuel + 1) listed a w hJ (by rw [hsplit, hFlen]; exact hu)
    · by_cases hrd : ∃ i ∈ fl, i ∈ Region.ready .any l.toArray listed
      · obtain ⟨i, hi, hir⟩ := hrd
        obtain ⟨o, v, d, ho, hs, hg, hdst, hdn, hpure⟩ := hflat i hi
        have him : i < m := by have := (List.getElem?_eq_some_iff.1 ho).1; omega
        have hol : l[i]? = some o := by rw [← hfree i him]; exact ho
        obtain ⟨h0, o', ho', hp⟩ := mem_ready.1 hir
        have ho' : l[i]? = some o' := by simpa using ho'
        rw [hol] at ho'; cases ho'
        have hJ' : J W n D L M R (F.take m ++ F.drop m).toArray (F.take m) ss listed a w := by rw [hsplit]; exact hJ
        obtain ⟨a', g, f1, hex, hgv, hS⟩ := frame_at hpb hlen hfr hlate hab hst' hJ' ho hp
        have hirF : i ∈ Region.ready .any (F.take m ++ F.drop m).toArray listed := by
          rw [hsplit]
          exact mem_ready.2 ⟨h0, o, by rw [List.getElem?_toArray, hlow i him]; exact hol, hp⟩
        have hy : Go.Yields P l.toArray o v a := .inl ⟨by simp [Region.wanted, hg], fun w => by rw [hex]; exact hpure a' f1 w⟩
        refine wpAny_first (i := i) (oi := o) (v := v) (by simpa using hol) (Region.noSelect_spec hns) (fun _ _ _ hx => hx.elim) fuel listed a w (freeAt_spec hol (List.all_eq_true.1 hfs i hi) hp) hir hy ?_
        · have hnd : Inj (F.take m) := by
            simp only [parB, Bool.and_eq_true] at hpb
            exact injB_sound hpb.1.1.2
          have hset : (resOf ss listed g (F.take m).length ++ M).Perm (restOf ss listed g (F.take m).length i ++ M) := by
            refine List.Perm.append_right M (List.Perm.of_eq ?_)
            refine flatMap_same _ _ _ fun j hj => ?_
            by_cases e : j = i
            · subst e
              have : listed.getD j false = false := by rw [← hboth j (by omega)]; exact h0
              rw [if_pos rfl, this, hs]; rfl
            · rw [if_neg e]
          have hJn := hJ.next (v := v) (o := o) (s := Spc.q v) (i := i) (w' := w) hnd hfr (by simp [hFlen, hmF]; omega) (by rw [← hsplit]; exact hirF) (by rw [List.getElem?_toArray, hlow i him]; exact hol) ho hs (by rw [hdst]; exact hdn) rfl rfl hL hgv (hS.perm hset)
          refine ih _ _ _ hJn ?_
          have := unl_set (N := l.length) (i := i) (by omega) hsz h0
          omega
      · have hex : ∃ i, (i ∈ fl ∧ listed.getD i false = false) := by
          apply Classical.byContradiction
          intro hne
          refine hall fun i hi => ?_
          cases h : listed.getD i false
          · exact absurd ⟨i, hi, h⟩ hne
          · rfl
        obtain ⟨k, ⟨hk, hkf⟩, hkm⟩ := least hex
        obtain ⟨ok, vk, dk, hok, _⟩ := hflat k hk
        have hkm' : k < m := by have := (List.getElem?_eq_some_iff.1 hok).1; omega
        have hokl : l[k]? = some ok := by rw [← hfree k hkm']; exact hok
        have hlt : ∀ j, j ∈ Region.ready .any l.toArray listed → j < m := by
          intro j hj
          rcases Nat.lt_or_ge j m with h | h
          · exact h
          · exfalso
            obtain ⟨j0, o, hoj, hp⟩ := mem_ready.1 hj
            have hoj' : l[j]? = some o := by simpa using hoj
            have hjl : j < l.length := (List.getElem?_eq_some_iff.1 hoj').1
            have h1 := List.all_eq_true.1 htl j (List.mem_range.2 hjl)
            simp only [Bool.or_eq_true] at h1
            have hnon : ∀ t, t < j → t ∉ fl → listed.getD t false = true := fun t ht hnf => by
              rcases h1 with h1 | h1
              · have : j < m := by simpa using h1
                omega
              · have h2 := List.all_eq_true.1 h1 t (List.mem_range.2 ht)
                simp only [Bool.or_eq_true, List.contains_eq_mem, decide_eq_true_eq] at h2
                rcases h2 with h2 | h2
                · exact absurd h2 hnf
                · exact (masks_sound (ops := l.toArray) (hclosed listed hJ.closed) l [] (fun j => by simp) (fun i hi => by simp at hi)).1 j o (Nat.zero_le _) hoj hp t h2
            refine hrd ⟨k, hk, mem_ready.2 ⟨by rw [hboth k (by omega)]; exact hkf, ok, by simpa using hokl, fun e he hb => ?_⟩⟩
            have hek := hback k ok hokl e he hb
            by_cases hef : e.on ∈ fl
            · cases h : listed.getD e.on false
              · exact absurd ⟨hef, h⟩ (hkm e.on hek)
              · rfl
            · exact hnon e.on (by omega) hef
        refine ⟨fun hr => ?_, fun j hj => ?_⟩
        · exfalso
          have hex2 : ∃ t, t < l.length ∧ listed.getD t false = false := ⟨k, by omega, hkf⟩
          obtain ⟨t, ⟨ht, htf⟩, htm⟩ := least hex2
          have : t ∈ Region.ready .any l.toArray listed := mem_ready.2 ⟨by rw [hboth t ht]; exact htf, l[t], by simp, fun e he hb => by
            have hlt2 := hback t l[t] (List.getElem?_eq_getElem ht) e he hb
            cases h : listed.getD e.on false
            · exact absurd ⟨by omega, h⟩ (htm e.on hlt2)
            · rfl⟩
          rw [hr] at this; cases this
        · have hjm := hlt j hj
          obtain ⟨j0, o, hoj, hp⟩ := mem_ready.1 hj
          have hoj' : l[j]? = some o := by simpa using hoj
          refine float_op (fl := fl) (m := m) ?_
          rw [hF, ← hsplit]
          replace hJ : J W n D L M R (F.take m ++ F.drop m).toArray (F.take m) ss listed a w := by rw [hsplit]; exact hJ
          refine par_step hpb hlen hfr hlate hab hst' hJ (mem_ready.2 ⟨j0, o, ?_, hp⟩) (by omega) _ fun a' w' hJ' => ih _ _ _ (by rw [hsplit] at hJ'; exact hJ') ?_
          · rw [List.getElem?_toArray, hsplit, hlow j hjm]; exact hoj'
          · have := unl_set (N := l.length) (i := j) (by have := (List.getElem?_eq_some_iff.1 hoj').1; omega) hsz j0
            omega
/-- **A drawn region of which some operations look at the frame alone, and may be drawn late.** -/
theorem r_parF {id : Nat} {l : List Oper} (fl : List Nat) (m : Nat) (hml : Nat.ble m l.length = true) (hns : Region.noSelect l.toArray = true) (hbk : backB l = true) (htl : tailF fl (masks l []) m l.length = true) (hfs : freesB l fl = true)
    (hm : P.follows .mixedOrders = true) (hpb : parB ((floatL fl m l).take m) ((floatL fl m l).drop m) = true) (hfr : freshB L ((floatL fl m l).take m) = true)
    (h : ParO P W n M R (floatL fl m l).toArray (fun ss => FlOK P n L ((floatL fl m l).take m) ss fl ∧ preOf ss = [] ∧ lateX (floatL fl m l).toArray ss = true ∧ Fin W n D (wpList P (floatL fl m l).toArray (NoP Q) ((floatL fl m l).drop m)) ((floatL fl m l).take m) ss L M R) ((floatL fl m l).take m) [] L) : Imp W n D L M R ((Code.region id l.toArray true).wp P Q) := by
  have hml : m ≤ l.length := by simpa using hml
  intro a w h1 h2 h3
  refine Code.wp_mono (Q := NoP Q) (fun e a' w' he => ?_) ?_
  · cases e with
    | normal => exact he
    | _ => exact he.elim
  refine wp_region_any hm ?_
  obtain ⟨ss, hl, ⟨hsi, hpre, hlx, hfin⟩, hs⟩ := ParO.out ((floatL fl m l).take m) [] L h
  rw [List.nil_append] at hsi hpre hlx hfin
  have hLB : lateB (floatL fl m l).toArray ss 0 ss = true := by simp only [lateX, Bool.and_eq_true] at hlx; exact hlx.1
  have hlk : ∀ o ∈ (floatL fl m l).take m, look L (o.dst.getD 1000000) = none := fun o ho => by
    have := List.all_eq_true.1 hfr o ho
    simpa using this
  refine float_all hml hpb hl hlk (lateOK_of hLB) (fun k s c e1 e2 => (lateX_ab hlx k s c e1 e2).elim) (fun k o s e1 e2 => by
    have := hs k o s e1 e2
    rw [List.nil_append, List.length_nil, Nat.zero_add] at this
    exact this) hfin hsi hns hbk htl hfs _ _ _ _ ⟨?_, ?_, ?_, h1, h2, fun _ => undef, ?_, ?_⟩ ?_
  · simp [floatL_len]
  · intro j o _ hj
    rw [rep_false] at hj; cases hj
  · intro t _ ht
    have : t < l.length := by simpa [floatL_len] using ht
    simp [this]
  · intro i o s e1 _ hj
    rw [rep_false] at hj; cases hj
  · have e1 : resOf ss (Array.replicate l.toArray.size false) (fun _ => undef) ((floatL fl m l).take m).length = [] := by
      rw [← hpre, ← preOf_range, hl]
      refine flatMap_same _ _ _ fun j hj => ?_
      rw [rep_false]; rfl
    have e2 : ∀ k, fctOf ss (Array.replicate l.toArray.size false) (fun _ => undef) k = [] := by
      intro k
      unfold fctOf
      induction k with
      | zero => rfl
      | succ k ih => rw [List.range_succ, List.flatMap_append, ih, List.nil_append, List.flatMap_cons, List.flatMap_nil, List.append_nil, rep_false]; rfl
    rw [e1, e2]
    exact h3.heap rfl rfl rfl rfl
  · have := unl_tail (N := l.length) (m := 0) (listed := Array.replicate l.length false) (fun i hi => by omega)
    simpa using this
theorem p_nilF {ops : Array Oper} {F : List Spc → Prop} {G : List Spc → Prop} {P0 : List Res} {acc acc' : List Spc} (e : acc = acc') (hp : preOf acc' = P0) (hi : G acc') (h : F acc') (hl : lateX ops acc' = true := by rfl) : ParO P W n M R ops (fun ss => G ss ∧ preOf ss = P0 ∧ lateX ops ss = true ∧ F ss) [] acc L := by
  subst e
  exact ⟨hi, hp, hl, h⟩
/-- The value of a move, of a sum. -/
theorem float_move {o : Oper} {x : Operand} {v : Value} (ho : o.op = .move x) (hx : ev L x = some v) : ∀ a, FSat n L a → ∀ w, (execOp a.eval o).run P w = .ok (.value v) w := fun a h w => by
  simp [execOp, ho, h.ev hx]
theorem float_add {o : Oper} {t u : TypeId} {x y : Operand} {b c : Int} (ho : o.op = .binOp .add t x y u) (hx : ev L x = some (.int .i64 b)) (hy : ev L y = some (.int .i64 c)) (h : -9223372036854775808 ≤ b + c ∧ b + c ≤ 9223372036854775807) : ∀ a, FSat n L a → ∀ w, (execOp a.eval o).run P w = .ok (.value (.int .i64 (b + c))) w := fun f h1 w => by
  simp [execOp, ho, h1.ev hx, h1.ev hy, eqGuard, binOp, Op.intArith, IntWalk.i64_in _ h]
end Go.G


namespace Go.G
variable {P : Program} {W : World} {n : Nat} {D : List Deferred} {L : Tm} {M : List Res} {R : List Fact} {Q : Exit → Act → World → Prop} {o : Oper}
/-- One element more, to what may be nothing. -/
theorem run_appZ1 {α : Type} {enc : α → List Value} {sz b c : Nat} {v : Value} {xs : List α} {M' : List Res} {t ty e : TypeId} {i : TypeInfo} {z : Value} {w : World} (y : α) (g4 : St W (ownZ v e sz enc xs :: M') R w) (ht : P.underlying t = some (.slice e)) (hi : P.info? e = some i) (hz : i.zero = some z) (hsz : i.size = sz) (hzs : z.cells.size = sz) (henc : ∀ x, (enc x).length = sz)
    (hcell : ∀ j u, (enc y)[j]? = some u → w.cell? ((⟨b, 0, none⟩ : Addr).add j) = some u) (h1 : oneCells (enc y) = true) (hbd : xs.length ≤ 1000000 ∧ i.bytes ≤ 1000000) :
    ∃ v' w', (Builtin.append_ #[t, t] ty #[v, .slice (some ⟨b, 0, none⟩) 1 c]).run P w = .ok v' w' ∧ St W (ownL v' e sz enc (xs ++ [y]) :: M') R w' := by
  have hl : (enc y).length = 1 * sz := by rw [henc, Nat.one_mul]
  rcases g4.ownZ_cases with ⟨⟨oa, rfl⟩, rfl, g5⟩ | g5
  · subst hsz
    have hgr := g5.newOwn (e := e) (z := z) (i := i) rfl hzs henc [y] (old := 0) (by simp [maxLen]) (by simp) (cs := (enc y).toArray) (by simp)
    have hby : 1 * i.bytes ≤ 140737488355328 := by omega
    cases oa with
    | none =>
      have hr := Go.run_append_nil (P := P) w t ty e i z ht hi hz ⟨b, 0, none⟩ 1 c (enc y) hl hcell (by omega) (by omega) (by omega)
      exact ⟨_, _, hr, by simpa using hgr⟩
    | some ad =>
      have hr := run_append_grow (P := P) w t ty e i z ht hi hz ad 0 0 [] (by simp) (by simp) ⟨b, 0, none⟩ 1 c (enc y) hl hcell (by omega) (by omega) (growslice_fits (by omega) (by rw [Nat.zero_add]; exact hby))
      simp only [Nat.zero_add] at hr
      exact ⟨_, _, hr, by simpa using hgr⟩
  · have hby : (xs.length + 1) * i.bytes ≤ 140737488355328 := by
      have : (xs.length + 1) * i.bytes ≤ 1000001 * 1000000 := Nat.mul_le_mul (by omega) hbd.2
      omega
    obtain ⟨v', w', hr, hw'⟩ := run_append (P := P) (ty := ty) (c := c) (k := 1) g5 ht hi hz hsz hzs hcell hl (oneCells_mem h1) (by simp only [maxLen]; omega) hby (M' := M') ⟨[], M', rfl, rfl⟩
    refine ⟨v', w', hr, ?_⟩
    unfold ownL
    simpa using hw'
/-- Cells that are known, in a new slice that a later operation makes longer. -/
def Spc.ozl {α : Type} (e : TypeId) (sz : Nat) (enc : α → List Value) (ys : List α) (kT : Nat) : Spc := ⟨none, fun _ => True, fun v => [ownZ v e sz enc ys], fun _ => [], [], some (kT, fun _ => []), none, none⟩
theorem p_appNL {α : Type} {enc : α → List Value} {ops : Array Oper} {K : List Spc → Prop} {rest : List Oper} {acc : List Spc} {d x : Nat} {y : Operand} {t e : TypeId} {i : TypeInfo} {z : Value} {sz c : Nat} {oa : Option Addr} {ys : List α} (kT j : Nat) {oj : Oper} [hrow : HasRow oa R sz enc ys] (hoj : ops[j]? = some oj) (hx : oj.dst.getD 1000000 = x) (hsj : acc[j]? = some Spc.l0) (hdep : depD ops o j = true)
    (hg : o.guard = none) (hdst : o.dst = some d) (hd : Nat.blt d n = true) (ho : o.op = .call { callee := .builtin .append, args := #[.tmp x, y], argTypes := #[t, t] }) (ht : P.underlying t = some (.slice e)) (hi : P.info? e = some i) (hz : i.zero = some z) (hsz : i.size = sz) (hzs : z.cells.size = sz) (henc : ∀ x, (enc x).length = sz)
    (hy : ∀ u, ev ((x, u) :: L) y = some (.slice oa ys.length c)) (hbd : ys.length ≤ 1000000 ∧ i.bytes ≤ 1000000) (h : ParO P W n M R ops K rest (acc ++ [Spc.ozl e sz enc ys kT]) L) : ParO P W n M R ops K (o :: rest) acc L := by
  refine ⟨Spc.ozl e sz enc ys kT, by simp [hdst, hd], .inl ⟨rfl, .inr (.inr (.inl ⟨hg, j, oj, Spc.l0, hoj, hsj, rfl, hdep, ?_⟩))⟩, by simpa [addL, Spc.ozl] using h⟩
  rintro u ⟨b, rfl⟩
  rw [hx]
  intro Mx Rx a w g1 g3
  have g3 : St W (Mx ++ M) (Rx ++ R) w := g3
  obtain ⟨v', w', hr, hw'⟩ := run_appN (P := P) (ty := o.type) (c := c) (b := b) g3 (List.mem_append_right _ hrow.mem) henc ht hi hz hsz hzs hbd
  have hxe : ev ((x, Value.slice (some ⟨b, 0, none⟩) 0 0) :: L) (.tmp x) = some (.slice (some ⟨b, 0, none⟩) 0 0) := by simp [ev, look_cons_eq]
  have hrun : (execOp a.eval o).run P w = .ok (.value v') w' := by
    unfold execOp
    simp only [ho, resolve, invoke, builtin, Sem.run_bind, Sem.run_pure, Result.andThen_ok, List.map_toArray, List.map_cons, List.map_nil, g1.ev hxe, g1.ev (hy _), hr]
  rw [hrun]
  exact ⟨trivial, hw'⟩
theorem f_ozl {α : Type} {X : Act → World → Prop} {os : List Oper} {ss : List Spc} {e : TypeId} {sz : Nat} {enc : α → List Value} {ys : List α} {kT d : Nat} (hdst : o.dst = some d) (h : ∀ v, Fin W n D X os ss ((d, v) :: L) M R) : Fin W n D X (o :: os) (Spc.ozl e sz enc ys kT :: ss) L M R := by
  show ∀ u, True → Fin W n D X os ss (putL o.dst u L) ([] ++ M) ([] ++ R)
  rw [hdst]
  intro u _
  exact h u
/-- It is made longer, by an element of a literal. -/
def Spc.apt {α : Type} (e : TypeId) (sz : Nat) (enc : α → List Value) (ys : List α) (j : Nat) : Spc := Spc.s6 none (fun _ => True) (fun v => [ownL v e sz enc ys]) j
theorem p_appT {α : Type} {enc : α → List Value} {ops : Array Oper} {K : List Spc → Prop} {rest : List Oper} {acc : List Spc} {d x x2 : Nat} {t e e2 : TypeId} {i : TypeInfo} {z : Value} {sz : Nat} {ys : List α} {cs : List Value} (j q : Nat) (y : α) {oj oq : Oper} (hoj : ops[j]? = some oj) (hx : oj.dst.getD 1000000 = x) (hsj : acc[j]? = some (Spc.ozl e sz enc ys acc.length)) (hdep : depD ops o j = true) (hoq : ops[q]? = some oq) (hx2 : oq.dst.getD 1000000 = x2) (hsq : acc[q]? = some (Spc.lit 1 e2 cs)) (hdepq : depD ops o q = true) (hne : Nat.beq x2 x = false)
    (hg : o.guard = none) (hdst : o.dst = some d) (hd : Nat.blt d n = true) (ho : o.op = .call { callee := .builtin .append, args := #[.tmp x, .tmp x2], argTypes := #[t, t] }) (ht : P.underlying t = some (.slice e)) (hi : P.info? e = some i) (hz : i.zero = some z) (hsz : i.size = sz) (hzs : z.cells.size = sz) (henc : ∀ x, (enc x).length = sz)
    (hcs : cs = enc y) (h1 : oneCells cs = true) (hbd : ys.length ≤ 1000000 ∧ i.bytes ≤ 1000000) (h : ParO P W n M R ops K rest (acc ++ [Spc.apt e sz enc (ys ++ [y]) j]) L) : ParO P W n M R ops K (o :: rest) acc L := by
  subst hcs
  refine ⟨Spc.apt e sz enc (ys ++ [y]) j, by simp [hdst, hd], .inr (.inr ⟨hg, j, oj, Spc.ozl e sz enc ys acc.length, fun _ => [], none, _, _, q, oq, Spc.lit 1 e2 (enc y), rfl, hoj, hsj, rfl, rfl, hdep, hoq, hsq, rfl, hdepq, ?_⟩), by simpa [addL, Spc.apt, Spc.s6] using h⟩
  intro u _ v2 hv2
  rw [hx, hx2]
  intro Mx Rx a w g1 g3
  have g3 : St W (Mx ++ ([ownZ u e sz enc ys] ++ M)) (Rx ++ ([boxF (sblk v2) e2 (enc y)] ++ ([] ++ R))) w := g3
  have g4 : St W (ownZ u e sz enc ys :: (Mx ++ M)) (Rx ++ ([boxF (sblk v2) e2 (enc y)] ++ ([] ++ R))) w := g3.perm (by
    rw [← List.append_assoc]
    exact (List.perm_append_comm.append_right M).trans (by simp))
  have hv2 : v2 = .slice (some ⟨sblk v2, 0, none⟩) 1 1 := hv2
  have hcell : ∀ j u, (enc y)[j]? = some u → w.cell? ((⟨sblk v2, 0, none⟩ : Addr).add j) = some u := fun j u hu => by rw [add_at, Nat.zero_add, g3.cellF (List.mem_append_right Rx (List.mem_append_left _ (List.mem_singleton.2 rfl)))]; exact hu
  obtain ⟨v', w', hr, hw'⟩ := run_appZ1 (P := P) (ty := o.type) (c := 1) (b := sblk v2) y g4 ht hi hz hsz hzs henc hcell h1 hbd
  have hxe2 : ev ((x2, v2) :: (x, u) :: L) (.tmp x2) = some v2 := by simp [ev, look_cons_eq]
  have hxe : ev ((x2, v2) :: (x, u) :: L) (.tmp x) = some u := by
    simp only [ev]
    rw [look_cons_ne (by intro e; subst e; simp at hne), look_cons_eq]
  rw [← hv2] at hr
  have hrun : (execOp a.eval o).run P w = .ok (.value v') w' := by
    unfold execOp
    simp only [ho, resolve, invoke, builtin, Sem.run_bind, Sem.run_pure, Result.andThen_ok, List.map_toArray, List.map_cons, List.map_nil, g1.ev hxe, g1.ev hxe2, hr]
  rw [hrun]
  exact ⟨trivial, hw'⟩
theorem f_apt {α : Type} {X : Act → World → Prop} {os : List Oper} {ss : List Spc} {e : TypeId} {sz : Nat} {enc : α → List Value} {ys : List α} {j d : Nat} (hdst : o.dst = some d) (h : ∀ v, Fin W n D X os ss ((d, v) :: L) (ownL v e sz enc ys :: M) R) : Fin W n D X (o :: os) (Spc.apt e sz enc ys j :: ss) L M R := by
  show ∀ u, True → Fin W n D X os ss (putL o.dst u L) ([ownL u e sz enc ys] ++ M) ([] ++ R)
  rw [hdst]
  intro u _
  exact h u
end Go.G


namespace Go.G
open Go.ChangeShapes Go.RowKit Go.Deep
section
variable {H : Type} {en : TypeId × Value → H} {P : Program} {w : World} {base : Nat} {sp : Nat → Bool} {held : Bool}
theorem mapM_at {α β : Type} {f : α → Option β} : ∀ {l : List α} {r : List β}, l.mapM f = some r → r.length = l.length ∧ ∀ (j : Nat) (x : α), l[j]? = some x → f x = r[j]?
  | [], r, h => by
    simp at h; subst h; simp
  | a :: l, r, h => by
    rw [List.mapM_cons] at h
    simp only [bind, Option.bind_eq_some_iff, pure, Option.some.injEq] at h
    obtain ⟨b, hb, bs, hbs, rfl⟩ := h
    obtain ⟨h1, h2⟩ := mapM_at hbs
    refine ⟨by simp [h1], fun j x hj => ?_⟩
    cases j with
    | zero => simp at hj; subst hj; simpa using hb
    | succ j => simpa using h2 j x (by simpa using hj)
theorem cells_at {a : Addr} {n : Nat} {cs : List Value} (h : w.cells? base a n = some cs) : cs.length = n ∧ ∀ j, j < n → w.cell? (a.add j) = cs[j]? := by
  unfold World.cells? at h
  split at h
  · obtain ⟨h1, h2⟩ := mapM_at h
    exact ⟨by simpa using h1, fun j hj => h2 j j (by simp [hj])⟩
  · cases h
/-- A slice of things of one kind is a row that is known. -/
theorem open_rowD {α : Type} [Inhabited α] {enc : α → List Value} {sz : Nat} (ok : α → Prop) {t e : TypeId} {fuel : Nat} {cs : List Value} {x : DataW H × List MemPlace} (ht : P.underlying t = some (.slice e)) (hc : P.cellsOf e = sz) (hpos : 0 < sz)
    (hel : ∀ fuel cs x, DataW.trod en P w base sp held fuel e cs = some x → ∃ y : α, cs = enc y ∧ ok y) (h : DataW.trod en P w base sp held fuel t cs = some x) :
    ∃ (oa : Option Addr) (cap : Nat) (xs : List α), cs = [.slice oa xs.length cap] ∧ rowD oa sz enc xs (full w) ∧ (∀ y ∈ xs, ok y) ∧ xs.length ≤ maxLen := by
  rcases open_slice ht h with ⟨rfl, _⟩ | ⟨a, len, cap, m, n, D, Pl, rfl, _, hlc, hcm, hm, _, hall⟩
  · exact ⟨none, 0, [], rfl, .inl rfl, by simp, Nat.zero_le _⟩
  · have hle : len ≤ m := by rw [hm]; split <;> omega
    have hch : ∀ i, i < len → ∃ y : α, w.cells? base (a.add (i * sz)) sz = some (enc y) ∧ ok y := by
      intro i hi
      obtain ⟨cs', h1, h2⟩ := hall i (by omega)
      obtain ⟨y, rfl, hy⟩ := hel _ _ _ h2
      rw [hc] at h1
      exact ⟨y, h1, hy⟩
    obtain ⟨f, hf⟩ := choose_lt hch
    refine ⟨some a, cap, (List.range len).map f, by simp, ?_, ?_, by simp; omega⟩
    · by_cases h0 : len = 0
      · subst h0; exact .inl rfl
      · obtain ⟨c1, c2⟩ := cells_at (hf 0 (by omega)).1
        have hz := c2 0 hpos
        have hsome : ∃ v, w.cell? ((a.add (0 * sz)).add 0) = some v := ⟨(enc (f 0))[0]'(by omega), by rw [hz]; simp [show 0 < (enc (f 0)).length from by omega]⟩
        obtain ⟨v, hv⟩ := hsome
        have ha0 : (a.add (0 * sz)).add 0 = a := by simp [Addr.add]
        rw [ha0] at hv
        unfold World.cell? at hv
        split at hv
        · rename_i C T fr hb
          split at hv
          · cases hv
          · rename_i hs
            obtain ⟨b, off, spot⟩ := a
            have hsp : spot = none := by cases spot <;> simp_all
            subst hsp
            refine .inr ⟨b, off, C, T, fr, rfl, hb, fun i j hi hj => ?_⟩
            have hi' : i < len := by simpa using hi
            obtain ⟨_, d2⟩ := cells_at (hf i hi').1
            have := d2 j hj
            rw [add_at, add_at] at this
            rw [cell_of_row w b _ C T fr hb] at this
            rw [this]
            simp
        · cases hv
    · intro y hy
      obtain ⟨i, hi, rfl⟩ := List.mem_map.1 hy
      exact (hf i (by simpa using hi)).2
theorem open_i {t : TypeId} {k : IntKind} {fuel : Nat} {cs : List Value} {x : DataW H × List MemPlace} (ht : P.underlying t = some (.int k)) (h : DataW.trod en P w base sp held fuel t cs = some x) : ∃ n, cs = [.int k n] ∧ (Lit.int k n).wf = true := by
  obtain ⟨n, h1, _, h2⟩ := DataW.trod_int ht h
  exact ⟨n, h1, h2⟩
/-- A struct's field. -/
theorem open_field {t : TypeId} {fs : Array Field} {fuel : Nat} {cs : List Value} {x : DataW H × List MemPlace} (ht : P.underlying t = some (.struct fs)) (h : DataW.trod en P w base sp held fuel t cs = some x) (i : Nat) {f : Field} (hf : fs[i]? = some f) {n : Nat} (hn : P.cellsOf f.type = n) :
    ∃ fuel' y, DataW.trod en P w base sp held fuel' f.type ((cs.drop f.offset).take n) = some y := by
  obtain ⟨xs, m, _, _, _, hl, hall⟩ := DataW.trod_struct ht h
  have hi : i < xs.length := by rw [hl]; exact (Array.getElem?_eq_some_iff.1 hf).1
  have := hall i f hf
  rw [hn, List.getElem?_eq_getElem hi] at this
  exact ⟨m, _, this⟩
theorem open_len {t : TypeId} {fs : Array Field} {fuel : Nat} {cs : List Value} {x : DataW H × List MemPlace} (ht : P.underlying t = some (.struct fs)) (h : DataW.trod en P w base sp held fuel t cs = some x) : cs.length = P.cellsOf t := (DataW.trod_struct ht h).choose_spec.choose_spec.2.2.1
end

/-! ### what stands before is kept -/
def keepF (W : World) : Fact := fun V => ∀ b o, W.heap[b]? = some o → V b = some o
theorem vw_nil (w : World) : vw [] w = full w := by funext b; simp [vw, full]
theorem St.start (W : World) {R : List Fact} (h : ∀ φ ∈ R, Mono φ ∧ φ (full W)) : St W [] R W := by
  refine ⟨rfl, rfl, rfl, [], rfl, ⟨by simp [keys], by simp⟩, fun φ hφ => ?_⟩
  obtain ⟨hm, hv⟩ := h φ hφ
  rw [vw_nil]
  exact fun V' hl => hm _ _ hv hl
theorem Mono.keep (W : World) : Mono (keepF W) := fun _ _ h hl b o ho => hl _ _ (h b o ho)
theorem keepF_self (W : World) : keepF W (full W) := fun _ _ h => h
theorem below_of {W w' : World} {M : List Res} {R : List Fact} (h : St W M (R ++ [keepF W]) w') : Below W.heap.size W w' := by
  have hk : keepF W (full w') := h.fact (List.mem_append_right _ (by simp))
  have hb : ∀ k, k < W.heap.size → w'.heap[k]? = W.heap[k]? := fun k hk' => by
    have e : W.heap[k]? = some W.heap[k] := by simp [hk']
    rw [e]; exact hk k _ e
  refine ⟨h.os, h.tape, h.output, ?_, hb⟩
  rcases Nat.eq_zero_or_pos W.heap.size with h0 | h0
  · omega
  · have := hb (W.heap.size - 1) (by omega)
    rw [show W.heap[W.heap.size - 1]? = some W.heap[W.heap.size - 1] from by simp [h0]] at this
    have := (Array.getElem?_eq_some_iff.1 this).1
    omega
/-- The call of what a contract speaks of. -/
theorem FnV.law {P : Program} {k : FuncId} {args : List Value} {R : List Fact} {v : Value} (h : FnV P k args R v) (W : World) (hR : ∀ φ ∈ R, Mono φ ∧ φ (full W)) : Calls P k args.toArray W fun e w' => e = .returned v ∧ Below W.heap.size W w' := by
  have hs : St W [] (R ++ [keepF W]) W := St.start W (fun φ hφ => by
    rcases List.mem_append.1 hφ with h1 | h1
    · exact hR φ h1
    · have : φ = keepF W := by simpa using h1
      subst this
      exact ⟨Mono.keep W, keepF_self W⟩)
  exact (h.calls W [] [keepF W] W hs).mono fun e w' ⟨he, hw⟩ => ⟨he, below_of hw⟩

/-! ### a law's end -/
section
variable {H : Type} {en : TypeId × Value → H} {P : Program}
theorem trodAll_stays (hl : laidOutB P = true) {W W' : World} (hb : Below W.heap.size W W') : ∀ {ts : List TypeId} {vs : List Value} {ds : List (DataW H)} {ps : List MemPlace}, (ts.all fun t => P.readableRec t && Nat.blt t P.types.size) = true →
    DataW.TrodAll en P W 0 (fun _ => true) true ts vs ds ps → (∀ p ∈ ps, p.block < W.heap.size) → ∀ sp : Nat → Bool, (∀ p ∈ ps, sp p.block = true) → DataW.TrodAll en P W' 0 sp true ts vs ds ps
  | [], vs, ds, ps, _, h, _, sp, _ => by
    obtain ⟨rfl, rfl, rfl⟩ := trodAll_nil h
    exact rfl
  | t :: ts, vs, ds, ps, ht, h, hp, sp, hsp => by
    obtain ⟨v, vs', d, ds', p, q, rfl, rfl, rfl, h1, h2⟩ := trodAll_cons h
    simp only [List.all_cons, Bool.and_eq_true] at ht
    refine ⟨p, q, ?_, trodAll_stays hl hb ht.2 h2 (fun x hx => hp x (List.mem_append_right _ hx)) sp (fun x hx => hsp x (List.mem_append_right _ hx)), rfl⟩
    exact WideElems.Trod_stays hl ht.1.1 (by simpa using ht.1.2) h1 (fun x hx => hb.same (hp x (List.mem_append_left _ hx))) (fun x hx => hsp x (List.mem_append_left _ hx))
theorem post_of_below {f : Func} {s : ChangeSpec} {W W' : World} {args : Array Value} {ds gs : List (DataW H)} {before : List MemPlace} {tb : TypeId}
    (hW : DataW.Whole en P f.params.toList s.vars false W args.toList ds gs before) (hv : s.vars = []) (hl : laidOutB P = true) (hts : (f.params.toList.all fun t => P.readableRec t && Nat.blt t P.types.size) = true)
    (hr : f.resultTypes = #[tb]) (hb : P.underlying tb = some .bool) (hs : s.fn H ds = { results := [.lit (.bool true)], args := ds, vars := [] }) (hbl : Below W.heap.size W W') : s.post en P f false true false false W args (.bool true) W' := by
  have hW0 := hW
  obtain ⟨p, q, hA, hV, hpq, hz, hn⟩ := hW
  rw [hv] at hV
  obtain ⟨rfl, rfl⟩ := trodVars_none hV
  have hbe : before = p := by simpa using hpq
  subst hbe
  have hlt : ∀ x ∈ before, x.block < W.heap.size := hW0.lt
  have hargs : ∀ sp : Nat → Bool, (∀ x ∈ before, sp x.block = true) → DataW.TrodAll en P W' 0 sp true f.params.toList args.toList ds before := fun sp hsp => trodAll_stays hl hbl hts hA hlt sp hsp
  have hres : ∀ (b : Nat) (sp : Nat → Bool) (hd : Bool), DataW.TrodAll en P W' b sp hd f.resultTypes.toList ((Value.bool true).resultList f.resultTypes.size) [.lit (.bool true)] [] := by
    intro b sp hd
    rw [hr]
    exact trodAll_mk1 (shut_bool hb true)
  have hs' : s.fn H (ds ++ []) = { results := [.lit (.bool true)], args := ds, vars := [] } := by rw [List.append_nil]; exact hs
  have hold : ∀ x ∈ before, (fun b => decide (b < W.heap.size)) x.block = true := fun x hx => by simpa using hlt x hx
  have hargs' : ∀ sp : Nat → Bool, (∀ x ∈ before, sp x.block = true) → DataW.TrodAll en P W' 0 sp true f.params.toList args.toList (s.fn H (ds ++ [])).args before := by rw [hs']; exact hargs
  have hres' : ∀ (b : Nat) (sp : Nat → Bool) (hd : Bool), DataW.TrodAll en P W' b sp hd f.resultTypes.toList ((Value.bool true).resultList f.resultTypes.size) (s.fn H (ds ++ [])).results [] := by rw [hs']; exact hres
  have hvars' : ∀ sp : Nat → Bool, DataW.TrodVars en P W' sp s.vars (s.fn H (ds ++ [])).vars [] := by intro sp; rw [hs', hv]; rfl
  refine ⟨ds, [], before, [], before, [], hW0, hres' _ _ _, hargs' _ hold, hvars' _, hbl.frame _, fun _ => ?_⟩
  refine ⟨ok_one hr rfl (okWide_bool_mk hb true), _, _, ([] ++ before) ++ [], ⟨[] ++ before, [], trodAll_append (hargs' _ (fun _ _ => rfl)) (hres' _ _ _), hvars' _, rfl, ?_, ?_⟩, ?_⟩
  · intro b off hp
    rw [hbl.frozen (hlt _ (by simpa using hp))]
    exact hz b off (by simpa using hp)
  · intro ha; cases ha
  · intro x hx _
    simpa using hx
end
end Go.G


namespace Go.G
theorem o_fnX {P : Program} {α : Type} {W : World} {n : Nat} {D : List Deferred} {L : Tm} {M M1 : List Res} {R : List Fact} {Q : Exit → Act → World → Prop} {o : Oper} {ops : Array Oper} {rest : List Oper} {k : FuncId} {args : List Value} {R0 : List Fact} {r : Res} {g : α → Value} {Pp : α → Prop} {Mr : α → Res} {Rr : α → List Fact} {xs : List Operand} {ts : Array TypeId} {d : Nat} [hM : DelC M r M1]
    (h : FnS P k args [r] R0 (fun e M' R' => ∃ x, e = .returned (g x) ∧ Pp x ∧ M' = [Mr x] ∧ R' = Rr x)) (ho : o.op = .call { callee := .value (.func k), args := xs.toArray, argTypes := ts })
    (hx : evs L xs = some args) (hg : o.guard = none) (hdst : o.dst = some d) (hd : Nat.blt d n = true) (hs : SubR R R0)
    (hret : ∀ x, Pp x → Imp W n D ((d, g x) :: L) (Mr x :: M1) (Rr x ++ R) (wpList P ops Q rest)) : Imp W n D L M R (wpList P ops Q (o :: rest)) := by
  refine o_call h ho [] [] rfl hx (by simp) hg (by simp [okD, hdst, hd]) (Mf := M1) ⟨[], by simpa using hM.del.perm⟩ hs ?_ ?_ ?_
  · rintro v M' R' ⟨x, he, hp, rfl, rfl⟩
    cases he
    rw [hdst]
    exact hret x hp
  · rintro c M' R' ⟨x, he, _⟩; cases he
  · rintro M' R' ⟨x, he, _⟩; cases he
theorem o_fnF {P : Program} {α : Type} {W : World} {n : Nat} {D : List Deferred} {L : Tm} {M : List Res} {R : List Fact} {Q : Exit → Act → World → Prop} {o : Oper} {ops : Array Oper} {rest : List Oper} {k : FuncId} {args : List Value} {R0 : List Fact} {g : α → Value} {Rr : α → List Fact} {xs : List Operand} {ts : Array TypeId} {d : Nat}
    (h : FnS P k args [] R0 (fun e M' R' => ∃ x, e = .returned (g x) ∧ M' = [] ∧ R' = Rr x)) (ho : o.op = .call { callee := .value (.func k), args := xs.toArray, argTypes := ts })
    (hx : evs L xs = some args) (hg : o.guard = none) (hdst : o.dst = some d) (hd : Nat.blt d n = true) (hs : SubR R R0)
    (hret : ∀ x, Imp W n D ((d, g x) :: L) M (Rr x ++ R) (wpList P ops Q rest)) : Imp W n D L M R (wpList P ops Q (o :: rest)) := by
  refine o_call h ho [] [] rfl hx (by simp) hg (by simp [okD, hdst, hd]) (Mf := M) SelM.refl hs ?_ ?_ ?_
  · rintro v M' R' ⟨x, he, rfl, rfl⟩
    cases he
    rw [hdst]
    exact hret x
  · rintro c M' R' ⟨x, he, _⟩; cases he
  · rintro M' R' ⟨x, he, _⟩; cases he
theorem FnS.intro1 {P : Program} {n : Nat} {r : Res} {k : FuncId} {args : List Value} {R0 : List Fact} {Post : Ending → List Res → List Fact → Prop} {fn : Func} {c : Code} (he : ∀ (ag : Array Value) (w : World), (callFunc k ag).run P w = .ok (.enter k ag) w)
    (hf : P.funcs[k]? = some fn) (hb : fn.body = some c) (hn : fn.ntmps = n) (ha : Nat.ble args.length n = true)
    (h : ∀ W Mf Rf, Imp W n [] (argsL args 0) (r :: Mf) (R0 ++ Rf) (c.wp P (bodyPost P fn (RetE W Mf (R0 ++ Rf) Post)))) : FnS P k args [r] R0 Post := FnS.intro he hf hb hn ha h
theorem FnM.to {P : Program} {k : FuncId} {args : List Value} {m : Res} {R0 : List Fact} {u v : Value} (h : FnM P k args m R0 (fun x => x = u)) (e : u = v) : FnM P k args m R0 (fun x => x = v) := e ▸ h
theorem tmod_nat {a b : Nat} : ((a : Int)).tmod (b : Int) = ((a % b : Nat) : Int) := by
  rw [Int.tmod_eq_emod_of_nonneg (by omega)]; omega
theorem all_step {p : Nat → Prop} {k : Nat} (h : ∀ j, j < k → p j) (hk : p k) : ∀ j, j < k + 1 → p j := fun j hj => by
  by_cases e : j = k
  · subst e; exact hk
  · exact h j (by omega)
theorem Imp.run {W : World} {M : List Res} {R : List Fact} {Z : World → Prop} {w : World} (h : Imp W 0 [] [] M R (fun _ w => Z w)) (hw : St W M R w) : Z w := h _ w (FSat.entry (args := []) (n := 0) (Nat.zero_le _)) rfl hw
/-- A struct of which the first fields alone are told. -/
theorem v_bSp {P : Program} {W : World} {n : Nat} {L : Tm} {M : List Res} {R : List Fact} {o : Oper} {T : TypeId} {ps : List (Nat × Operand)} {vs us : List Value} {i : TypeInfo} {z : Value} {fs : Array Field} {pl : List (Nat × Nat)} {cs : List Value} (ho : o.op = .build T ps.toArray) (hT : P.underlying T = some (.struct fs)) (hi : P.info? T = some i) (hp : plT P T = some pl) (hz : i.zero = some z)
    (hx : evs L (ps.map (·.2)) = some vs) (hk : ps.map (·.1) = List.range ps.length) (hpl : PlaceOK (fun k => pl[k]?) 0 0 vs) [hc : CatC vs cs] (hl : cs.length ≤ z.cells.size) (hu : cs ++ z.cells.toList.drop cs.length = us) : OpQ P W n L M R o (.agg us.toArray) :=
  OpQ.of_value fun g w h1 _ => by
    have hq := parts_eq h1 hx hk
    have hf0 : cs = vs.flatMap fun v => v.cells.toList := hc.cat
    obtain ⟨arr, e1, e2⟩ := fill_seq vs 0 0 z.cells hpl (by rw [← hf0]; omega)
    have hf : Instr.fill (fun k => pl[k]?) z.cells ((List.range vs.length).zip vs) = some us.toArray := by
      rw [List.range_eq_range', e1]
      congr 1
      apply Array.ext'
      rw [e2, ← hf0, ← hu]
      simp
    simp only [execOp, ho, Instr.build, Sem.run_bind, run_zeroValue' hi hz, run_underlying hT, Result.andThen_ok, plT_run hT hp w, List.map_toArray, hq]
    simp [hf]
theorem o_fnR {P : Program} {α : Type} {W : World} {n : Nat} {D : List Deferred} {L : Tm} {M : List Res} {R : List Fact} {Q : Exit → Act → World → Prop} {o : Oper} {ops : Array Oper} {rest : List Oper} {k : FuncId} {args : List Value} {R0 : List Fact} {g : α → Value} {Mr : α → Res} {Rr : α → List Fact} {xs : List Operand} {ts : Array TypeId} {d : Nat}
    (h : FnS P k args [] R0 (fun e M' R' => ∃ x, e = .returned (g x) ∧ M' = [Mr x] ∧ R' = Rr x)) (ho : o.op = .call { callee := .value (.func k), args := xs.toArray, argTypes := ts })
    (hx : evs L xs = some args) (hg : o.guard = none) (hdst : o.dst = some d) (hd : Nat.blt d n = true) (hs : SubR R R0)
    (hret : ∀ x, Imp W n D ((d, g x) :: L) (Mr x :: M) (Rr x ++ R) (wpList P ops Q rest)) : Imp W n D L M R (wpList P ops Q (o :: rest)) := by
  refine o_call h ho [] [] rfl hx (by simp) hg (by simp [okD, hdst, hd]) (Mf := M) SelM.refl hs ?_ ?_ ?_
  · rintro v M' R' ⟨x, he, rfl, rfl⟩
    cases he
    rw [hdst]
    exact hret x
  · rintro c M' R' ⟨x, he, _⟩; cases he
  · rintro M' R' ⟨x, he, _⟩; cases he
theorem St.nilZ {α : Type} {enc : α → List Value} {sz : Nat} {W w : World} {M : List Res} {R : List Fact} (oa : Option Addr) (T : TypeId) (h : St W M R w) : St W (ownZ (.slice oa 0 0) T sz enc [] :: M) R w := by
  obtain ⟨s, hS, hO, hR⟩ := h.mem
  exact ⟨h.os, h.tape, h.output, s, ⟨[], s, rfl, .inl ⟨⟨oa, rfl⟩, rfl, rfl⟩, hS⟩, hO, hR⟩
theorem Imp.nilZ {α : Type} {enc : α → List Value} {sz : Nat} {W : World} {n : Nat} {D : List Deferred} {L : Tm} {M : List Res} {R : List Fact} {X : Act → World → Prop} (oa : Option Addr) (T : TypeId) (h : Imp W n D L (ownZ (.slice oa 0 0) T sz enc [] :: M) R X) : Imp W n D L M R X := fun a w h1 h2 h3 => h a w h1 h2 (h3.nilZ oa T)
/-- What may be nothing is a slice. -/
theorem Imp.isZ {α : Type} {enc : α → List Value} {sz : Nat} {T : TypeId} {xs : List α} {W : World} {n : Nat} {D : List Deferred} {L : Tm} {M M' : List Res} {R : List Fact} {X : Act → World → Prop} (v : Value) [hd : DelC M (ownZ v T sz enc xs) M'] (h : isSl xs.length v → Imp W n D L M R X) : Imp W n D L M R X := by
  intro a w g1 g2 g3
  have g4 : St W (ownZ v T sz enc xs :: M') R w := g3.perm hd.del.perm
  refine h ?_ a w g1 g2 g3
  obtain ⟨s, ⟨s1, s2, _, hz, _⟩, _, _⟩ := g4.mem
  rcases hz with ⟨⟨oa, hv⟩, rfl, _⟩ | hz
  · exact ⟨oa, 0, hv⟩
  · exact own_isSl hz
theorem flat_get0 {α : Type} [Inhabited α] {enc : α → List Value} {sz : Nat} (henc : ∀ x, (enc x).length = sz) {xs : List α} {i j : Nat} (hi : i < xs.length) (hj : j < sz) : (xs.flatMap enc)[i * sz + j]? = (enc (xs.getD i default))[j]? := by
  have h := flat_get (sp := []) henc hi hj
  rwa [List.append_nil] at h
theorem flat_set0 {α : Type} [Inhabited α] {enc : α → List Value} {sz : Nat} (henc : ∀ x, (enc x).length = sz) {y : α} {v : Value} {xs : List α} {i j : Nat} (hi : i < xs.length) (hj : j < sz) (he : enc y = (enc (xs.getD i default)).set j v) : (xs.flatMap enc).set (i * sz + j) v = (xs.set i y).flatMap enc := by
  have h := flat_set (sp := []) henc xs i j hi hj he
  rwa [List.append_nil, List.append_nil] at h
section
variable {P : Program} {W : World} {n : Nat} {D : List Deferred} {L : Tm} {M : List Res} {R : List Fact} {o : Oper}
/-- A slice is held against nil. -/
theorem v_eqNil {T u e : TypeId} {x : Operand} {oa : Option Addr} {l c : Nat} {b : Bool} (ho : o.op = .binOp .eql T x (.const (.slice none 0 0)) u) (hT : P.underlying T = some (.slice e)) (hx : ev L x = some (.slice oa l c)) (hb : oa.isNone = b) : OpQ P W n L M R o (.bool b) :=
  OpQ.of_value fun f w h1 _ => by
    have e1 := h1.ev hx
    have hb1 : (binOp .eql T (.slice oa l c) (.slice none 0 0)).run P w = .ok (.bool b) w := by
      show Sem.run P (do pure (Value.bool (← Op.equal T (.slice oa l c) (.slice none 0 0)))) w = _
      have h2 : (Op.equal T (.slice oa l c) (.slice none 0 0)).run P w = .ok b w := by
        show (Op.equalIn (9999 + 1) T (.slice oa l c) (.slice none 0 0)).run P w = _
        unfold Op.equalIn
        subst hb
        cases oa <;> simp only [Sem.run_bind, run_underlying hT, Result.andThen_ok, Sem.run_pure, Option.isNone]
      simp only [Sem.run_bind, h2, Result.andThen_ok, Sem.run_pure]
    have e2 : f.eval (.const (.slice none 0 0)) = .slice none 0 0 := rfl
    unfold execOp
    simp [ho, e1, e2, eqGuard, hb1]
/-- A whole owned slice, as a box. -/
theorem Imp.boxOwn {α : Type} {enc : α → List Value} {sz : Nat} {T : TypeId} {xs : List α} {b : Nat} {M' : List Res} {X : Act → World → Prop} [hd : HasOwn (.slice (some ⟨b, 0, none⟩) xs.length xs.length) M T sz enc xs M']
    (h : Imp W n D L (bx b T (xs.flatMap enc) :: M') R X) : Imp W n D L M R X := by
  intro a w h1 h2 h3
  refine h a w h1 h2 ?_
  have h4 : St W (ownL (.slice (some ⟨b, 0, none⟩) xs.length xs.length) T sz enc xs :: M') R w := h3.perm hd.del.perm
  obtain ⟨s, ⟨s1, s2, rfl, hs1, hM⟩, hO, hR⟩ := h4.mem
  refine ⟨h4.os, h4.tape, h4.output, s1 ++ s2, ⟨s1, s2, rfl, ?_, hM⟩, hO, hR⟩
  obtain ⟨hl, ⟨e, _⟩ | ⟨b', cap, C, e, _, _, hC, ht, rfl⟩⟩ := hs1
  · cases e
  · simp only [Value.slice.injEq, Option.some.injEq, Addr.mk.injEq, true_and, and_true] at e
    obtain ⟨e1, e2⟩ := e
    have ec : cap = xs.length := e2.symm
    subst ec; subst e1
    have h6 : C.toList = xs.flatMap enc := by
      rw [← ht, List.take_of_length_le]
      rw [Array.length_toList, hC]; exact Nat.le_refl _
    show [(b, Obj.cells C T (0, 0))] = [(b, Obj.cells (xs.flatMap enc).toArray T (0, 0))]
    rw [← h6]
end
end Go.G


namespace Debt10
open Go Go.G
abbrev i64 (n : Int) : Value := .int .i64 n
abbrev u64 (n : Nat) : Value := .int .u64 n
def encS (s : Span) : List Value := [i64 s.lo, i64 s.hi]
def encD (x : Due) : List Value := [i64 x.who, i64 x.day, i64 x.sods.lo, i64 x.sods.hi, i64 x.late]
def encP (x : Paid) : List Value := [i64 x.who, i64 x.day, i64 x.sods.lo, i64 x.sods.hi]
def encO (x : Opn) : List Value := [i64 (x.number : Int), i64 (x.day : Int), i64 x.left, i64 x.late]
def encI (x : Int) : List Value := [i64 x]
theorem encD_len (x : Due) : (encD x).length = 5 := rfl
theorem encP_len (x : Paid) : (encP x).length = 4 := rfl
theorem encO_len (x : Opn) : (encO x).length = 4 := rfl
theorem encI_len (x : Int) : (encI x).length = 1 := rfl
@[reducible] def vS (s : Span) : Value := .agg #[i64 s.lo, i64 s.hi]
@[reducible] def cellsD (D : Debt) (uo po : Option Addr) (uc pc : Nat) : List Value := [i64 D.people, .slice uo D.dues.length uc, .slice po D.paid.length pc]
@[reducible] def valD (D : Debt) (uo po : Option Addr) (uc pc : Nat) : Value := .agg (cellsD D uo po uc pc).toArray
/-- An account, as a value: where its dues lie, how many, and what is ahead. -/
@[reducible] def vA (oa : Option Addr) (n c : Nat) (A : Int) : Value := .agg #[.slice oa n c, i64 A]
end Debt10


namespace Debt10
theorem take_next {α : Type} {l : List α} {k : Nat} {d : α} (hk : k < l.length) : l.take k ++ [l.getD k d] = l.take (k + 1) := by
  rw [List.take_add_one, List.getD_eq_getElem?_getD, List.getElem?_eq_getElem hk]; rfl
theorem map_at {α β : Type} {f : α → β} {l : List α} {k : Nat} {d : α} {e : β} (hk : k < l.length) : (l.map f).getD k e = f (l.getD k d) := by
  rw [List.getD_eq_getElem?_getD, List.getD_eq_getElem?_getD, List.getElem?_map, List.getElem?_eq_getElem hk]; rfl
theorem mem_at {α : Type} {l : List α} {k : Nat} {d : α} (hk : k < l.length) : l.getD k d ∈ l := by
  rw [List.getD_eq_getElem?_getD, List.getElem?_eq_getElem hk]; exact List.getElem_mem hk
def sumK (l : List Int) (k : Nat) : Int := (l.take k).sum
theorem sumK_0 (l : List Int) : sumK l 0 = 0 := rfl
theorem sumK_s {l : List Int} {k : Nat} {d : Int} (hk : k < l.length) : sumK l (k + 1) = sumK l k + l.getD k d := by
  unfold sumK
  rw [← take_next (d := d) hk, List.sum_append, List.sum_cons, List.sum_nil]; omega
theorem sumK_all (l : List Int) : sumK l l.length = l.sum := by unfold sumK; rw [List.take_length]
theorem sumK_bd {l : List Int} {B : Int} (hB : 0 ≤ B) (h : ∀ x ∈ l, 0 ≤ x ∧ x ≤ B) : ∀ {k : Nat}, k ≤ l.length → 0 ≤ sumK l k ∧ sumK l k ≤ B * (k : Int)
  | 0, _ => by rw [sumK_0]; constructor <;> simp
  | k + 1, hk => by
    have h1 := sumK_bd hB h (k := k) (by omega)
    have h2 := h (l.getD k 0) (mem_at (by omega))
    rw [sumK_s (d := 0) (by omega)]
    have e : B * ((k + 1 : Nat) : Int) = B * (k : Int) + B := by push_cast; rw [Int.mul_add, Int.mul_one]
    rw [e]; omega
theorem total_map : ∀ l : List Opn, total l = (l.map (·.left)).sum
  | [] => rfl
  | x :: r => by
    show x.left + total r = _
    rw [List.map_cons, List.sum_cons, total_map r]
/-- The set of the numbers of the first k. -/
def setK (l : List Opn) (k : Nat) : Nat := (l.take k).foldl (fun s x => s ||| 2 ^ x.number) 0
theorem setK_s {l : List Opn} {k : Nat} (hk : k < l.length) : setK l k ||| 2 ^ (l.getD k default).number = setK l (k + 1) := by
  unfold setK
  rw [← take_next (d := default) hk, List.foldl_append]; rfl
theorem setK_lt {l : List Opn} (h : ∀ x ∈ l, x.number < 6) : ∀ {k : Nat}, k ≤ l.length → setK l k < 2 ^ 62
  | 0, _ => by show 0 < _; decide
  | k + 1, hk => by
    rw [← setK_s (by omega)]
    refine Nat.or_lt_two_pow (setK_lt h (by omega)) ?_
    have := h (l.getD k default) (mem_at (by omega))
    exact Nat.pow_lt_pow_right (by decide) (by omega)
/-! ### paying, from the first on -/
theorem restF_app : ∀ (p : List Opn) (x : Opn) (A : Int), restF (p ++ [x]) A = max 0 (restF p A - x.left)
  | [], _, _ => rfl
  | _ :: p, x, _ => restF_app p x _
theorem payL_app : ∀ (p : List Opn) (x : Opn) (A : Int), payL (p ++ [x]) A = payL p A ++ (if max 0 (x.left - restF p A) > 0 then [{ x with left := max 0 (x.left - restF p A) }] else [])
  | [], x, A => by
    show (if max 0 (x.left - A) > 0 then [_] else []) = [] ++ _
    rfl
  | y :: p, x, A => by
    have h := payL_app p x (max 0 (A - y.left))
    show (if max 0 (y.left - A) > 0 then _ :: payL (p ++ [x]) _ else payL (p ++ [x]) _) = (if max 0 (y.left - A) > 0 then _ :: payL p _ else payL p _) ++ _
    rw [h]
    split
    · rfl
    · rfl
def payK (l : List Opn) (A : Int) (k : Nat) : List Opn := payL (l.take k) A
def restK (l : List Opn) (A : Int) (k : Nat) : Int := restF (l.take k) A
theorem restK_s {l : List Opn} {A : Int} {k : Nat} (hk : k < l.length) : restK l A (k + 1) = max 0 (restK l A k - (l.getD k default).left) := by
  unfold restK; rw [← take_next (d := default) hk, restF_app]
theorem payK_y {l : List Opn} {A : Int} {k : Nat} (hk : k < l.length) (h : 0 < max 0 ((l.getD k default).left - restK l A k)) : payK l A k ++ [{ l.getD k default with left := max 0 ((l.getD k default).left - restK l A k) }] = payK l A (k + 1) := by
  unfold payK restK at *; rw [← take_next (d := default) hk, payL_app, if_pos h]
theorem payK_n {l : List Opn} {A : Int} {k : Nat} (hk : k < l.length) (h : ¬ 0 < max 0 ((l.getD k default).left - restK l A k)) : payK l A k = payK l A (k + 1) := by
  unfold payK restK at *; rw [← take_next (d := default) hk, payL_app, if_neg h, List.append_nil]
theorem payK_all (l : List Opn) (A : Int) : payK l A l.length = payL l A := by unfold payK; rw [List.take_length]
theorem restK_all (l : List Opn) (A : Int) : restK l A l.length = restF l A := by unfold restK; rw [List.take_length]
theorem payL_len : ∀ (l : List Opn) (A : Int), (payL l A).length ≤ l.length
  | [], _ => Nat.le_refl _
  | x :: r, A => by
    have h := payL_len r (max 0 (A - x.left))
    show (if _ then _ :: payL r _ else payL r _).length ≤ r.length + 1
    split
    · show (payL r _).length + 1 ≤ _; omega
    · omega
theorem payK_len (l : List Opn) (A : Int) (k : Nat) : (payK l A k).length ≤ l.length := by
  have h := payL_len (l.take k) A
  have h2 : (l.take k).length ≤ l.length := by rw [List.length_take]; omega
  unfold payK; omega
theorem restK_bd {l : List Opn} {A : Int} (hl : ∀ x ∈ l, 0 ≤ x.left) (hA : 0 ≤ A) : ∀ {k : Nat}, k ≤ l.length → 0 ≤ restK l A k ∧ restK l A k ≤ A
  | 0, _ => ⟨hA, Int.le_refl _⟩
  | k + 1, hk => by
    have h1 := restK_bd hl hA (k := k) (by omega)
    have h2 := hl (l.getD k default) (mem_at (by omega))
    rw [restK_s (by omega)]; omega
/-! ### growing, from the first on -/
def grow1 (d : Nat) (x : Opn) : Opn := if x.day < d then { x with left := x.left + x.late } else x
def growK (l : List Opn) (d k : Nat) : List Opn := (l.take k).map (grow1 d) ++ l.drop k
theorem growK_all (l : List Opn) (d : Nat) : growK l d l.length = growL d l := by
  unfold growK growL; rw [List.take_length, List.drop_length, List.append_nil]; rfl
theorem growK_len {l : List Opn} {d k : Nat} (hk : k ≤ l.length) : (growK l d k).length = l.length := by
  unfold growK; rw [List.length_append, List.length_map, List.length_take, List.length_drop]; omega
theorem growK_at {l : List Opn} {d k : Nat} (hk : k < l.length) : (growK l d k).getD k default = l.getD k default := by
  unfold growK
  rw [List.getD_eq_getElem?_getD, List.getElem?_append_right (by rw [List.length_map, List.length_take]; omega), List.length_map, List.length_take, List.getElem?_drop, show k + (k - min k l.length) = k from by omega, List.getD_eq_getElem?_getD]
theorem growK_s {l : List Opn} {d k : Nat} (hk : k < l.length) : growK l d (k + 1) = (growK l d k).set k (grow1 d (l.getD k default)) := by
  unfold growK
  have e : ((l.take k).map (grow1 d)).length = k := by rw [List.length_map, List.length_take]; omega
  rw [List.set_append, e, if_neg (Nat.lt_irrefl k), Nat.sub_self, ← take_next (d := default) hk, List.map_append]
  have h2 : l.drop k = l.getD k default :: l.drop (k + 1) := by
    rw [List.drop_eq_getElem_cons hk, List.getD_eq_getElem?_getD, List.getElem?_eq_getElem hk]; rfl
  rw [h2, List.set_cons_zero]
  simp
theorem growK_y {l : List Opn} {d k : Nat} (hk : k < l.length) (h : (l.getD k default).day < d) : growK l d (k + 1) = (growK l d k).set k { l.getD k default with left := (l.getD k default).left + (l.getD k default).late } := by
  rw [growK_s hk]; unfold grow1; rw [if_pos h]
theorem growK_n {l : List Opn} {d k : Nat} (hk : k < l.length) (h : ¬ (l.getD k default).day < d) : growK l d (k + 1) = growK l d k := by
  rw [growK_s hk]; unfold grow1; rw [if_neg h]
  have h3 := growK_at (d := d) hk
  have h4 := growK_len (d := d) (Nat.le_of_lt hk)
  refine List.ext_getElem? fun i => ?_
  rw [List.getElem?_set]
  split
  · rename_i e
    subst e
    rw [if_pos (by omega), ← h3, List.getD_eq_getElem?_getD, List.getElem?_eq_getElem (by omega)]; rfl
  · rfl
end Debt10


namespace Debt10
/-- How many sods are owed, and were brought, at one end. -/
def amE (e : Nat) (s : Span) : Int := if e = 0 then s.lo else s.hi
def paE (e : Nat) (s : Span) : Int := if e = 0 then s.hi else s.lo
def amD (D : Debt) (e i : Nat) : Int := amE e (D.dues.getD i default).sods
def paD (D : Debt) (e i : Nat) : Int := paE e (D.paid.getD i default).sods
/-- The days do not go down. -/
def SortedO (l : List Opn) : Prop := ∀ k, k + 1 < l.length → (l.getD k default).day ≤ (l.getD (k + 1) default).day
theorem sorted_of {l : List Opn} (h : l.Pairwise fun x y => x.day ≤ y.day) : SortedO l := fun k hk => by
  have h2 := List.pairwise_iff_getElem.1 h k (k + 1) (by omega) hk (by omega)
  rw [List.getD_eq_getElem?_getD, List.getElem?_eq_getElem (by omega), List.getD_eq_getElem?_getD, List.getElem?_eq_getElem hk]
  exact h2
theorem newTo_mem {D : Debt} {am : Nat → Int} {who : Int} {d : Nat} {x : Opn} : ∀ {n : Nat}, x ∈ newTo D am who d n → x.day = d ∧ x.number < n ∧ isNew D who d x.number = true ∧ x = newOp D am d x.number
  | 0, h => by cases h
  | n + 1, h => by
    rcases List.mem_append.1 h with h | h
    · obtain ⟨h1, h2, h3⟩ := newTo_mem h
      exact ⟨h1, by omega, h3⟩
    · split at h
      · rename_i hn
        rw [List.mem_singleton] at h
        subst h
        exact ⟨rfl, by show n < n + 1; omega, hn, rfl⟩
      · cases h
theorem payF_day : ∀ {l : List Opn} {A : Int} {x : Opn}, x ∈ payF l A → ∃ y ∈ l, x.day = y.day ∧ x.number = y.number ∧ x.late = y.late
  | [], _, _, h => by cases h
  | y :: r, A, x, h => by
    rcases List.mem_cons.1 h with rfl | h
    · exact ⟨y, List.mem_cons_self .., rfl, rfl, rfl⟩
    · obtain ⟨z, hz, e⟩ := payF_day h
      exact ⟨z, List.mem_cons_of_mem _ hz, e⟩
def days (l : List Opn) : List Nat := l.map (·.day)
theorem days_pay : ∀ (l : List Opn) (A : Int), days (payF l A) = days l
  | [], _ => rfl
  | x :: r, A => by
    show x.day :: days (payF r _) = x.day :: days r
    rw [days_pay r]
theorem days_grow (d : Nat) (l : List Opn) : days (growF d l) = days l := by
  unfold days growF
  rw [List.map_map]
  refine List.map_congr_left fun x _ => ?_
  show (if x.left > 0 ∧ x.day < d then _ else _ : Opn).day = x.day
  split <;> rfl
theorem days_new (D : Debt) (am : Nat → Int) (who : Int) (d : Nat) (n : Nat) : ∀ x ∈ days (newTo D am who d n), x = d := fun x hx => by
  obtain ⟨y, hy, rfl⟩ := List.mem_map.1 hx
  exact (newTo_mem hy).1
theorem pair_const {d : Nat} : ∀ {l : List Nat}, (∀ x ∈ l, x = d) → l.Pairwise (· ≤ ·)
  | [], _ => List.Pairwise.nil
  | x :: r, h => List.Pairwise.cons (fun y hy => by rw [h x (List.mem_cons_self ..), h y (List.mem_cons_of_mem _ hy)]; exact Nat.le_refl _) (pair_const fun y hy => h y (List.mem_cons_of_mem _ hy))
theorem acc_days (D : Debt) (am pa : Nat → Int) (who : Int) : ∀ d, (∀ x ∈ days (acc0 D am pa who d).1, x < d) ∧ (days (acc0 D am pa who d).1).Pairwise (· ≤ ·)
  | 0 => ⟨fun x hx => (List.not_mem_nil hx).elim, List.Pairwise.nil⟩
  | d + 1 => by
    obtain ⟨h1, h2⟩ := acc_days D am pa who d
    have e : days (acc0 D am pa who (d + 1)).1 = days (acc0 D am pa who d).1 ++ days (newF D am who d) := by
      show days (growF d (payF (_ ++ _) _)) = _
      rw [days_grow, days_pay]; exact List.map_append
    have h3 := days_new D am who d D.dues.length
    rw [e]
    refine ⟨fun x hx => ?_, List.pairwise_append.2 ⟨h2, pair_const h3, fun x hx y hy => ?_⟩⟩
    · rcases List.mem_append.1 hx with hx | hx
      · have := h1 x hx; omega
      · have := h3 x hx; omega
    · have := h1 x hx
      have := h3 y hy
      omega
/-- The account of a person, as the program keeps it: when a day begins, and at its end. -/
def progA (D : Debt) (e : Nat) (who : Int) (d : Nat) : List Opn × Int := ((acc0 D (amD D e) (paD D e) who d).1.filter isOpen, (acc0 D (amD D e) (paD D e) who d).2)
def progB (D : Debt) (e : Nat) (who : Int) (d : Nat) : List Opn × Int := ((accB D (amD D e) (paD D e) who d).1.filter isOpen, (accB D (amD D e) (paD D e) who d).2)
section
variable {D : Debt} (hg : GoodD D)
include hg
theorem am_bd (e : Nat) : ∀ i, i < D.dues.length → 1 ≤ amD D e i ∧ amD D e i ≤ 500 := fun i hi => by
  obtain ⟨_, _, ⟨h1, h2, h3, _⟩, _⟩ := hg.dues i hi
  unfold amD amE; split <;> omega
theorem pa_bd (e : Nat) : ∀ i, i < D.paid.length → 1 ≤ paD D e i ∧ paD D e i ≤ 500 := fun i hi => by
  obtain ⟨_, _, h1, h2, h3, _⟩ := hg.paid i hi
  unfold paD paE; split <;> omega
theorem am_bd0 (e : Nat) : ∀ i, i < D.dues.length → 0 ≤ amD D e i ∧ amD D e i ≤ 500 := fun i hi => by have := am_bd hg e i hi; omega
theorem pa_bd0 (e : Nat) : ∀ i, i < D.paid.length → 0 ≤ paD D e i ∧ paD D e i ≤ 500 := fun i hi => by have := pa_bd hg e i hi; omega
theorem new_open (e : Nat) (who : Int) (d : Nat) : (newF D (amD D e) who d).filter isOpen = newF D (amD D e) who d := by
  refine List.filter_eq_self.2 fun x hx => ?_
  obtain ⟨_, h2, _, h4⟩ := newTo_mem hx
  have := am_bd hg e x.number h2
  rw [h4]
  show decide (amD D e x.number > 0) = true
  exact decide_eq_true (by omega)
theorem fitA (e : Nat) (who : Int) (d : Nat) : Fit D (500 + 10 * (d : Int)) (acc0 D (amD D e) (paD D e) who d).1 ∧ 0 ≤ (acc0 D (amD D e) (paD D e) who d).2 ∧ (acc0 D (amD D e) (paD D e) who d).2 ≤ 3000 * (d : Int) := acc_fit hg (am_bd0 hg e) (pa_bd0 hg e) d
theorem fitN (e : Nat) (who : Int) (d : Nat) : Fit D (500 + 10 * (d : Int)) ((acc0 D (amD D e) (paD D e) who d).1 ++ newF D (amD D e) who d) := (fitA hg e who d).1.app ((new_fit (who := who) hg (am_bd0 hg e) (d := d) (Nat.le_refl _)).mono (by omega))
theorem paid_bdD (e : Nat) (who : Int) (d n : Nat) (hn : n ≤ D.paid.length) : 0 ≤ paidTo D (paD D e) who d n ∧ paidTo D (paD D e) who d n ≤ 500 * (n : Int) := paid_bd (pa_bd0 hg e) hn
/-- A day's payments. -/
theorem prog_pay (e : Nat) (who : Int) (d : Nat) : payL ((progA D e who d).1 ++ newF D (amD D e) who d) ((progA D e who d).2 + paidS D (paD D e) who d) = (progB D e who d).1 ∧ restF ((progA D e who d).1 ++ newF D (amD D e) who d) ((progA D e who d).2 + paidS D (paD D e) who d) = (progB D e who d).2 := by
  have h1 := fitN hg e who d
  have h2 := fitA hg e who d
  have h3 := paid_bdD hg e who d D.paid.length (Nat.le_refl _)
  have h4 := new_open hg e who d
  have e1 : (progA D e who d).1 ++ newF D (amD D e) who d = ((acc0 D (amD D e) (paD D e) who d).1 ++ newF D (amD D e) who d).filter isOpen := by
    rw [List.filter_append, h4]; rfl
  have e2 : (progA D e who d).2 = (acc0 D (amD D e) (paD D e) who d).2 := rfl
  rw [e1, e2]
  obtain ⟨h5, h6⟩ := pay_open (A := (acc0 D (amD D e) (paD D e) who d).2 + paidS D (paD D e) who d) h1.pos (by show 0 ≤ _ + paidTo D (paD D e) who d D.paid.length; omega)
  rw [h5, h6, payL_filter]
  exact ⟨rfl, rfl⟩
theorem fitB (e : Nat) (who : Int) (d : Nat) : Fit D (500 + 10 * (d : Int)) (accB D (amD D e) (paD D e) who d).1 := (accB_fit hg (am_bd0 hg e) (pa_bd0 hg e) d).1
theorem prog_grow (e : Nat) (who : Int) (d : Nat) : growL d (progB D e who d).1 = (progA D e who (d + 1)).1 ∧ (progB D e who d).2 = (progA D e who (d + 1)).2 := by
  have h1 := fitB hg e who d
  exact ⟨grow_open h1.pos (fun x hx => (h1.late x hx).1), rfl⟩
theorem prog_sorted (e : Nat) (who : Int) (d : Nat) : SortedO ((progA D e who d).1 ++ newF D (amD D e) who d) := by
  refine sorted_of ?_
  obtain ⟨h1, h2⟩ := acc_days D (amD D e) (paD D e) who d
  have h3 := days_new D (amD D e) who d D.dues.length
  refine List.pairwise_append.2 ⟨(List.pairwise_map.1 h2).filter _, List.pairwise_map.1 (pair_const h3), fun x hx y hy => ?_⟩
  have g1 := h1 x.day (List.mem_map.2 ⟨x, (List.mem_filter.1 hx).1, rfl⟩)
  have g2 := h3 y.day (List.mem_map.2 ⟨y, hy, rfl⟩)
  omega
theorem len_num {l : List Opn} (hn : (nums l).Nodup) (hl : ∀ x ∈ l, x.number < D.dues.length) : l.length ≤ 6 := by
  have h := List.Nodup.length_le_of_subset hn (l₂ := List.range D.dues.length) (fun i hi => by
    obtain ⟨x, hx, rfl⟩ := List.mem_map.1 hi
    exact List.mem_range.2 (hl x hx))
  have := hg.nd
  unfold nums at h
  rw [List.length_map, List.length_range] at h
  omega
theorem prog_len (e : Nat) (who : Int) (d : Nat) : ((progA D e who d).1 ++ newF D (amD D e) who d).length ≤ 6 := by
  have h1 := fitN hg e who d
  have h2 : (nums ((acc0 D (amD D e) (paD D e) who d).1 ++ newF D (amD D e) who d)).Nodup := by
    have := acc_nodup D (amD D e) (paD D e) who (d + 1)
    rw [nums_acc] at this
    rw [nums_app, nums_acc, nums_new]; exact this
  refine Nat.le_trans ?_ (len_num hg h2 h1.num)
  rw [List.length_append, List.length_append]
  exact Nat.add_le_add_right (List.length_filter_le _ _) _
theorem prog_bd (e : Nat) (who : Int) (d : Nat) (hd : d ≤ 31) : (∀ x ∈ (progA D e who d).1, (0 ≤ x.left ∧ x.left ≤ 1000) ∧ (0 ≤ x.late ∧ x.late ≤ 10) ∧ x.number < 6) ∧ 0 ≤ (progA D e who d).2 ∧ (progA D e who d).2 ≤ 100000 := by
  obtain ⟨h1, h2, h3⟩ := fitA hg e who d
  have := hg.nd
  refine ⟨fun x hx => ?_, h2, Int.le_trans h3 (by omega)⟩
  have hx := (List.mem_filter.1 hx).1
  have a := h1.pos x hx
  have b := h1.top x hx
  have c := h1.late x hx
  have f := h1.num x hx
  omega
theorem prog_bdN (e : Nat) (who : Int) (d : Nat) (hd : d ≤ 31) : (∀ x ∈ (progA D e who d).1 ++ newF D (amD D e) who d, (0 ≤ x.left ∧ x.left ≤ 1000) ∧ (0 ≤ x.late ∧ x.late ≤ 10) ∧ x.number < 6) := by
  have h1 := fitN hg e who d
  have := hg.nd
  intro x hx
  have hx : x ∈ (acc0 D (amD D e) (paD D e) who d).1 ++ newF D (amD D e) who d := by
    rcases List.mem_append.1 hx with hx | hx
    · exact List.mem_append_left _ ((List.mem_filter.1 hx).1)
    · exact List.mem_append_right _ hx
  have a := h1.pos x hx
  have b := h1.top x hx
  have c := h1.late x hx
  have f := h1.num x hx
  omega
theorem prog_bdB (e : Nat) (who : Int) (d : Nat) (hd : d ≤ 31) : (∀ x ∈ (progB D e who d).1, (0 ≤ x.left ∧ x.left ≤ 1000) ∧ (0 ≤ x.late ∧ x.late ≤ 10) ∧ x.number < 6) ∧ 0 ≤ (progB D e who d).2 ∧ (progB D e who d).2 ≤ 200000 := by
  have h1 := fitB hg e who d
  have h2 := fitA hg e who (d + 1)
  have := hg.nd
  refine ⟨fun x hx => ?_, h2.2.1, Int.le_trans h2.2.2 (by omega)⟩
  have hx := (List.mem_filter.1 hx).1
  have a := h1.pos x hx
  have b := h1.top x hx
  have c := h1.late x hx
  have f := h1.num x hx
  omega
theorem prog_lenB (e : Nat) (who : Int) (d : Nat) : (progB D e who d).1.length ≤ 6 := by
  have h1 := fitB hg e who d
  have h2 : (nums (accB D (amD D e) (paD D e) who d).1).Nodup := by
    have := acc_nodup D (amD D e) (paD D e) who (d + 1)
    rw [nums_acc] at this
    show (nums (payF _ _)).Nodup
    rw [nums_pay, nums_app, nums_acc, nums_new]; exact this
  exact Nat.le_trans (List.length_filter_le _ _) (len_num hg h2 h1.num)
theorem prog_lenA (e : Nat) (who : Int) (d : Nat) : (progA D e who d).1.length ≤ 6 := by
  have h1 := prog_len hg e who d
  rw [List.length_append] at h1; omega
end
theorem newTo_y {D : Debt} {am : Nat → Int} {who : Int} {d k : Nat} (h1 : (D.dues.getD k default).who = who) (h2 : (D.dues.getD k default).day = d) : newTo D am who d k ++ [newOp D am d k] = newTo D am who d (k + 1) := by
  show _ = newTo D am who d k ++ if isNew D who d k = true then _ else _
  rw [if_pos (decide_eq_true ⟨h1, h2⟩)]
theorem newTo_n {D : Debt} {am : Nat → Int} {who : Int} {d k : Nat} (h : ¬ ((D.dues.getD k default).who = who ∧ (D.dues.getD k default).day = d)) : newTo D am who d k = newTo D am who d (k + 1) := by
  show _ = newTo D am who d k ++ if isNew D who d k = true then _ else _
  rw [if_neg (by rw [decide_eq_true_iff]; exact h), List.append_nil]
theorem paidTo_y {D : Debt} {pa : Nat → Int} {who : Int} {d k : Nat} (h1 : (D.paid.getD k default).who = who) (h2 : (D.paid.getD k default).day = d) : paidTo D pa who d (k + 1) = paidTo D pa who d k + pa k := by
  show paidTo D pa who d k + (if _ then _ else _) = _
  rw [if_pos ⟨h1, h2⟩]
theorem paidTo_n {D : Debt} {pa : Nat → Int} {who : Int} {d k : Nat} (h : ¬ ((D.paid.getD k default).who = who ∧ (D.paid.getD k default).day = d)) : paidTo D pa who d (k + 1) = paidTo D pa who d k := by
  show paidTo D pa who d k + (if _ then _ else _) = _
  rw [if_neg h]; omega
theorem newTo_len (D : Debt) (am : Nat → Int) (who : Int) (d : Nat) : ∀ k, (newTo D am who d k).length ≤ k
  | 0 => Nat.le_refl _
  | k + 1 => by
    have h := newTo_len D am who d k
    show (newTo D am who d k ++ _).length ≤ _
    rw [List.length_append]
    split
    · show _ + 1 ≤ _; omega
    · show _ + 0 ≤ _; omega
end Debt10


namespace Go.G
variable {P : Program} {W : World} {n : Nat} {D : List Deferred} {L : Tm} {M : List Res} {R : List Fact} {Q : Exit → Act → World → Prop} {o : Oper} {Z : World → Prop}
/-- All orders; and at each step something stays so. -/
def wpAnyZ (Z : World → Prop) (P : Program) (ops : Array Oper) (Q : Exit → Act → World → Prop) : Nat → Array Bool → Act → World → Prop
  | 0, listed, a, w => Z w ∧ Region.ready .any ops listed = [] ∧ Q .normal a w
  | fuel + 1, listed, a, w => Z w ∧ (Region.ready .any ops listed = [] → Q .normal a w) ∧ ∀ i ∈ Region.ready .any ops listed, wpOp P ops Q i (wpAnyZ Z P ops Q fuel (listed.setIfInBounds i true)) a w
theorem wpAnyZ.any {ops : Array Oper} : ∀ {fuel : Nat} {listed : Array Bool} {a : Act} {w : World}, wpAnyZ Z P ops Q fuel listed a w → wpAny P .any ops Q fuel listed a w
  | 0, _, _, _, h => h.2
  | _ + 1, _, _, _, h => ⟨h.2.1, fun i hi => wpOp_mono (fun _ _ h' => h'.any) (h.2.2 i hi)⟩
theorem wpAnyZ.z {ops : Array Oper} {fuel : Nat} {listed : Array Bool} {a : Act} {w : World} (h : wpAnyZ Z P ops Q fuel listed a w) : Z w := by
  cases fuel with
  | zero => exact h.1
  | succ f => exact h.1
/-- It comes to v in every world in which Z holds. -/
def YieldsZ (Z : World → Prop) (P : Program) (ops : Array Oper) (o : Oper) (v : Value) (a : Act) : Prop := Region.wanted o (yielded ops a.tmps) = true ∧ ∀ w, Z w → (execOp a.eval o).run P w = .ok (.value v) w
theorem YieldsZ.wpOp {ops : Array Oper} {i : Nat} {v : Value} {a : Act} (hi : ops[i]? = some o) (hy : YieldsZ Z P ops o v a) {K : Act → World → Prop} {w : World} (hz : Z w) (h : K (a.put o.dst v) w) : wpOp P ops Q i K a w := by
  unfold Go.wpOp
  simp only [hi]
  rw [if_pos hy.1]
  unfold Oper.wp
  rw [hy.2 w hz]
  exact .inl h
theorem YieldsZ.put {ops : Array Oper} {oi oj : Oper} {v : Value} {a : Act} (hy : YieldsZ Z P ops oi v a) (hsi : ∀ cs b, oi.op ≠ .select cs b) (h3 : ∀ d, oj.dst = some d → d ∉ oi.looksAt ops) (u : Value) : YieldsZ Z P ops oi v (a.put oj.dst u) := by
  refine ⟨?_, fun w hz => ?_⟩
  · rw [wanted_put oi a oj.dst u h3]; exact hy.1
  · rw [execOp_put oi hsi a oj.dst u h3]; exact hy.2 w hz
/-- One that comes to the same at whatever time may as well be carried out first: a step of another one. -/
theorem wpOpZ_put {ops : Array Oper} {j : Nat} {oi oj : Oper} {v : Value} (hj : ops[j]? = some oj) (hap : oi.apart ops oj = true)
    (hsi : ∀ cs b, oi.op ≠ .select cs b) (hsj : ∀ cs b, oj.op ≠ .select cs b) {K : Act → World → Prop} {a : Act} {w : World}
    (hy : YieldsZ Z P ops oi v a) (h : wpOp P ops (NoP Q) j K (a.put oi.dst v) w) :
    wpOp P ops (NoP Q) j (fun a' w' => YieldsZ Z P ops oi v a' ∧ K (a'.put oi.dst v) w') a w := by
  obtain ⟨h1, h2, h3⟩ := Oper.apart_spec hap
  have keep := fun (b : Act) (hb : YieldsZ Z P ops oi v b) u => hb.put (oj := oj) hsi h3 u
  unfold wpOp at *
  simp only [hj] at *
  rw [wanted_put oj a oi.dst v h1] at h
  split
  · rename_i hw
    rw [if_pos hw] at h
    rcases h with h | ⟨_, a0, w0, hx⟩
    · refine .inl ?_
      unfold Oper.wp at *
      rw [execOp_put oj hsj a oi.dst v h1] at h
      generalize (execOp a.eval oj).run P w = r at h
      unfold Oper.upon at h ⊢
      split at h
      · rename_i u w'
        exact ⟨keep a hy u, by rw [← Act.put_comm a v u h2]; exact h⟩
      · rename_i w'
        exact ⟨keep a hy _, by rw [← Act.put_comm a v undef h2]; exact h⟩
      · rename_i d w'
        refine ⟨keep { a with defers := d :: a.defers } ⟨hy.1, hy.2⟩ _, ?_⟩
        rw [← Act.put_comm _ v undef h2, ← Act.put_defers]
        exact h
      · rename_i f args w'
        refine Calls.mono h fun e w'' he => ?_
        cases e with
        | returned u => exact ⟨keep a hy u, by rw [← Act.put_comm a v u h2]; exact he⟩
        | panicked c => exact he.elim
        | outgrown => obtain ⟨a1, w1, hx⟩ := he; exact hx.elim
      · refine Rows.mono h fun u w'' he => ⟨keep a hy u, by rw [← Act.put_comm a v u h2]; exact he⟩
      · exact h.elim
      · exact h.elim
    · exact hx.elim
  · rename_i hw
    rw [if_neg hw] at h
    exact ⟨keep a hy _, by rw [← Act.put_comm a v undef h2]; exact h⟩
theorem wpAnyZ_first {ops : Array Oper} {i : Nat} {oi : Oper} {v : Value} (hi : ops[i]? = some oi) (hsel : ∀ (j : Nat) (o : Oper) cs b, ops[j]? = some o → o.op ≠ .select cs b) :
    ∀ (fuel : Nat) (listed : Array Bool) (a : Act) (w : World),
      (∀ j oj, ops[j]? = some oj → j ≠ i → listed.getD j true = false → (∀ e ∈ oj.after, Region.binds .any e = true → e.on ≠ i) → oi.apart ops oj = true) →
      i ∈ Region.ready .any ops listed → YieldsZ Z P ops oi v a →
      wpAnyZ Z P ops (NoP Q) fuel (listed.setIfInBounds i true) (a.put oi.dst v) w → wpAnyZ Z P ops (NoP Q) (fuel + 1) listed a w := by
  intro fuel
  induction fuel with
  | zero =>
    intro listed a w _ hr hy H
    refine ⟨H.1, fun h => (by rw [h] at hr; cases hr), fun j hj => ?_⟩
    by_cases hji : j = i
    · subst hji; exact hy.wpOp hi H.1 H
    · have := ready_mono hj hji
      rw [H.2.1] at this
      cases this
  | succ fuel ih =>
    intro listed a w hfree hr hy H
    refine ⟨H.1, fun h => (by rw [h] at hr; cases hr), fun j hj => ?_⟩
    by_cases hji : j = i
    · subst hji; exact hy.wpOp hi H.1 H
    · have h1 := H.2.2 j (ready_mono hj hji)
      obtain ⟨hjun, oj, hoj, hall⟩ := mem_ready.1 hj
      have hnot : ∀ e ∈ oj.after, Region.binds .any e = true → e.on ≠ i := fun e he hb heq => by
        have g1 := hall e he hb
        have g0 := (mem_ready.1 hr).1
        rw [heq] at g1
        rw [getD_both g0] at g1; cases g1
      have h2 := wpOpZ_put hoj (hfree j oj hoj hji hjun hnot) (fun cs b => hsel i oi cs b hi) (fun cs b => hsel j oj cs b hoj) hy h1
      refine wpOp_mono (fun a' w' h3 => ih (listed.setIfInBounds j true) a' w' (fun k ok hk hki hun hno => ?_) (ready_mono hr (Ne.symm hji)) h3.1 ?_) h2
      · refine hfree k ok hk hki ?_ hno
        by_cases hjk : j = k
        · subst hjk; exact hjun
        · rw [getD_set_ne true hjk] at hun; exact hun
      · rw [Array.setIfInBounds_comm _ _ hji]
        exact h3.2
/-- A tail, in its order, and at each step something stays so. -/
def wpListZ (Z : World → Prop) (P : Program) (ops : Array Oper) (Q : Exit → Act → World → Prop) : List Oper → Act → World → Prop
  | [], a, w => Z w ∧ Q .normal a w
  | o :: rest, a, w => Z w ∧ if Region.wanted o (yielded ops a.tmps) then o.wp P a w (wpListZ Z P ops Q rest) Q ∨ (o.asks P a w ∧ LetsOut Q) else wpListZ Z P ops Q rest (a.put o.dst undef) w
theorem oz_nil {ops : Array Oper} (hz : ∀ w, St W M R w → Z w) (h : Imp W n D L M R (Q .normal)) : Imp W n D L M R (wpListZ Z P ops Q []) := fun a w h1 h2 h3 => ⟨hz w h3, h a w h1 h2 h3⟩
theorem oz_lift {ops : Array Oper} {rest : List Oper} (hz : ∀ w, St W M R w → Z w) (h : Imp W n D L M R (wpList P ops (Exit.then (wpListZ Z P ops (NoP Q) rest) (NoP Q)) [o])) : Imp W n D L M R (wpListZ Z P ops (NoP Q) (o :: rest)) := by
  intro a w h1 h2 h3
  refine ⟨hz w h3, ?_⟩
  have := h a w h1 h2 h3
  unfold wpList at this
  split
  · rename_i hw
    rw [if_pos hw] at this
    rcases this with h' | ⟨_, a0, w0, h'⟩
    · refine .inl ?_
      unfold Oper.wp at *
      generalize (execOp a.eval o).run P w = r at h'
      unfold Oper.upon at h' ⊢
      split at h'
      · exact h'
      · exact h'
      · exact h'
      · refine Calls.mono h' fun e w'' he => ?_
        cases e with
        | returned u => exact he
        | panicked c => exact he.elim
        | outgrown => obtain ⟨a1, w1, hx⟩ := he; exact hx.elim
      · exact h'
      · exact h'.elim
      · exact h'.elim
    · exact h'.elim
  · rename_i hw
    rw [if_neg hw] at this
    exact this
theorem wpAnyZ_tail {ops : Array Oper} (hb : backB ops.toList = true) : ∀ (k t fuel : Nat) (listed : Array Bool) (a : Act) (w : World), t + k = ops.size → k ≤ fuel → listed.size = ops.size → Closed ops listed →
    (∀ i, i < t → listed.getD i false = true) → (∀ i, t ≤ i → i < ops.size → listed.getD i true = false) →
    (∀ listed', Closed ops listed' → ∀ i o, t ≤ i → ops[i]? = some o → (∀ e ∈ o.after, Region.binds .any e = true → listed'.getD e.on false = true) → ∀ j, j < i → listed'.getD j false = true) →
    wpListZ Z P ops Q (ops.toList.drop t) a w → wpAnyZ Z P ops Q fuel listed a w := by
  intro k
  induction k with
  | zero =>
    intro t fuel listed a w htk _ hsz _ hl _ _ h
    have hdrop : ops.toList.drop t = [] := List.drop_eq_nil_of_le (by simp; omega)
    rw [hdrop] at h
    have hready : Region.ready .any ops listed = [] := by
      apply List.eq_nil_iff_forall_not_mem.2
      intro i hi
      obtain ⟨h0, o, ho, _⟩ := mem_ready.1 hi
      have hlt := (Array.getElem?_eq_some_iff.1 ho).1
      have := hl i (by omega)
      rw [getD_both h0] at this; cases this
    cases fuel with
    | zero => exact ⟨h.1, hready, h.2⟩
    | succ f => exact ⟨h.1, fun _ => h.2, fun i hi => by rw [hready] at hi; cases hi⟩
  | succ k ih =>
    intro t fuel listed a w htk hkf hsz hcl hl hu hm h
    have ht : t < ops.size := by omega
    obtain ⟨fuel, rfl⟩ : ∃ f, fuel = f + 1 := ⟨fuel - 1, by omega⟩
    have hot : ops[t]? = some ops[t] := Array.getElem?_eq_getElem ht
    have hback : ∀ i o, ops[i]? = some o → ∀ e ∈ o.after, Region.binds .any e = true → e.on < i := by
      intro i o ho e he hbi
      have hlt := (Array.getElem?_eq_some_iff.1 ho).1
      have := List.all_eq_true.1 hb i (List.mem_range.2 (by simpa using hlt))
      rw [show ops.toList[i]? = some o from by simpa using ho] at this
      have := Array.all_eq_true_iff_forall_mem.1 this e he
      simpa [hbi] using this
    have htr : t ∈ Region.ready .any ops listed := mem_ready.2 ⟨hu t (Nat.le_refl _) ht, _, hot, fun e he hbi => hl _ (hback t _ hot e he hbi)⟩
    have hz : Z w := by
      have ht2 : t < ops.toList.length := by simpa using ht
      rw [List.drop_eq_getElem_cons ht2] at h; exact h.1
    refine ⟨hz, fun h0 => (by rw [h0] at htr; cases htr), fun i hi => ?_⟩
    obtain ⟨h0, o, ho, hp⟩ := mem_ready.1 hi
    have hlt := (Array.getElem?_eq_some_iff.1 ho).1
    have hge : t ≤ i := by
      rcases Nat.lt_or_ge i t with h' | h'
      · have := hl i h'; rw [getD_both h0] at this; cases this
      · exact h'
    have hit : i = t := by
      rcases Nat.lt_or_ge t i with h' | h'
      · have := hm listed hcl i o hge ho hp t h'
        rw [getD_both (hu t (Nat.le_refl _) ht)] at this; cases this
      · omega
    subst hit
    have hoi : o = ops[i] := Option.some.inj (ho.symm.trans hot)
    have hdrop : ops.toList.drop i = o :: ops.toList.drop (i + 1) := by
      rw [List.drop_eq_getElem_cons (by simpa using ht)]; simp [hoi]
    rw [hdrop] at h
    have hcl' : Closed ops (listed.setIfInBounds i true) := by
      intro j oj hj hlj e he hbi
      by_cases hij : i = j
      · subst hij
        have : oj = o := Option.some.inj (hj.symm.trans ho)
        subst this
        exact getD_set_true (hp e he hbi)
      · rw [getD_set_ne false hij] at hlj
        exact getD_set_true (hcl j oj hj hlj e he hbi)
    have hih := fun a w => ih (i + 1) fuel (listed.setIfInBounds i true) a w (by omega) (by omega) (by simp [hsz]) hcl'
      (fun j hj => by
        by_cases hij : i = j
        · subst hij; simp [hsz, ht]
        · rw [getD_set_ne false hij]; exact hl j (by omega))
      (fun j hj hj' => by rw [getD_set_ne true (by omega)]; exact hu j (by omega) hj')
      (fun l' hc' j oj hj => hm l' hc' j oj (by omega))
    unfold wpOp
    simp only [ho]
    unfold wpListZ at h
    replace h := h.2
    split
    · rename_i hw
      rw [if_pos hw] at h
      exact h.imp (Oper.wp_mono fun a w => hih a w) id
    · rename_i hw
      rw [if_neg hw] at h
      exact hih _ _ h
theorem parZ_any {free tail : List Oper} {ss : List Spc} (hZ : ∀ X F w, St W (X ++ M) (F ++ R) w → Z w) (hpb : parB free tail = true) (hl : ss.length = free.length) (hfr : ∀ o ∈ free, look L (o.dst.getD 1000000) = none) (hL : LateOK (free ++ tail).toArray ss) (hab : ∀ (i : Nat) (s : Spc) (c : List PanicEntry), ss[i]? = some s → s.ab = some c → Imp W n D L M R (Q (.panic c)))
    (hstep : ∀ i o s, free[i]? = some o → ss[i]? = some s → Step1 P W n M R (free ++ tail).toArray ss i o s (detL (free.take i) (ss.take i) L))
    (hfin : Fin W n D (wpListZ Z P (free ++ tail).toArray Q tail) free ss L M R) :
    ∀ (fuel : Nat) (listed : Array Bool) (a : Act) (w : World), J W n D L M R (free ++ tail).toArray free ss listed a w → unl (free ++ tail).length listed ≤ fuel → wpAnyZ Z P (free ++ tail).toArray Q fuel listed a w := by
  simp only [parB, Bool.and_eq_true] at hpb
  obtain ⟨⟨⟨⟨hns, hfree⟩, hnd0⟩, hback⟩, htail⟩ := hpb
  have hnd := injB_sound hnd0
  have hmN : free.length ≤ (free ++ tail).length := by simp
  have hmask : ∀ listed', Closed (free ++ tail).toArray listed' → ∀ i o, free.length ≤ i → (free ++ tail).toArray[i]? = some o → (∀ e ∈ o.after, Region.binds .any e = true → listed'.getD e.on false = true) → ∀ j, j < i → listed'.getD j false = true := by
    intro listed' hc i o hi ho hp j hj
    have hlt : i < (free ++ tail).length := by simpa using (Array.getElem?_eq_some_iff.1 ho).1
    have h1 := List.all_eq_true.1 htail i (List.mem_range.2 hlt)
    simp only [Bool.or_eq_true] at h1
    rcases h1 with h1 | h1
    · have : i < free.length := by simpa using h1
      omega
    · have h2 := List.all_eq_true.1 h1 j (List.mem_range.2 hj)
      exact (masks_sound hc (free ++ tail) [] (fun j => by simp) (fun i hi => by simp at hi)).1 i o (Nat.zero_le _) ho hp j h2
  have hbk : ∀ i o, (free ++ tail).toArray[i]? = some o → ∀ e ∈ o.after, Region.binds .any e = true → e.on < i := by
    intro i o ho e he hbi
    have hlt : i < (free ++ tail).length := by simpa using (Array.getElem?_eq_some_iff.1 ho).1
    have := List.all_eq_true.1 hback i (List.mem_range.2 hlt)
    rw [show (free ++ tail)[i]? = some o from by simpa using ho] at this
    have := Array.all_eq_true_iff_forall_mem.1 this e he
    simpa [hbi] using this
  intro fuel
  induction fuel with
  | zero =>
    intro listed a w hJ hu
    have hall : ∀ i, i < free.length → listed.getD i false = true := by
      intro i hi
      cases h : listed.getD i true with
      | true =>
        have : i < listed.size := by rw [hJ.size]; simp; omega
        simp [this] at h ⊢; exact h
      | false =>
        have hsz : listed.size = (free ++ tail).length := by rw [hJ.size]; simp
        have := unl_set (N := (free ++ tail).length) (i := i) (by omega) hsz h
        omega
    obtain ⟨g, hg, hS⟩ := hJ.vals
    refine wpAnyZ_tail (by simpa using hback) ((free ++ tail).length - free.length) free.length 0 listed a w (by simp) (Nat.le_trans (unl_ge (fun i h1 h2 => hJ.late i h1 (by simpa using h2))) hu) hJ.size hJ.closed hall (fun i h1 h2 => hJ.late i h1 h2) hmask ?_
    have hd : ((free ++ tail).toArray).toList.drop free.length = tail := by simp
    rw [hd]
    have hsame : resOf ss listed g free.length = lastOf ss g free.length := by
      refine flatMap_same _ _ _ fun j hj => ?_
      have := List.mem_range.1 hj
      rw [hall j this, if_pos rfl]
      cases hsj : ss[j]? with
      | none => rfl
      | some sj =>
        unfold Spc.rsL Spc.last
        cases hl2 : sj.late with
        | none => simp [hl2]
        | some kr =>
          obtain ⟨k, r⟩ := kr
          have hk := (hL j sj k r hsj hl2).1
          simp [hl2, hall k (by omega)]
    have hsamf : ∀ (f : Spc → Value → List Fact), ((List.range free.length).flatMap fun i => if listed.getD i false then (match ss[i]? with | some s => f s (g i) | none => []) else []) = ((List.range free.length).flatMap fun i => if (Array.replicate free.length true).getD i false then (match ss[i]? with | some s => f s (g i) | none => []) else []) := by
      intro f
      refine flatMap_same _ _ _ fun j hj => ?_
      have := List.mem_range.1 hj
      rw [hall j this]; simp [this]
    refine fin_use free ss L M R hl hfin g a w hJ.defers hJ.frame hnd (fun i o s e1 e2 => hg i o s e1 e2 (hall i (List.getElem?_eq_some_iff.1 e1).1)) ?_
    rw [hsame] at hS
    have hf : fctOf ss listed g free.length = fctOf ss (Array.replicate free.length true) g free.length := hsamf Spc.fs
    rw [hf] at hS
    exact hS
  | succ fuel ih =>
    intro listed a w hJ hu
    by_cases hall : ∀ i, i < free.length → listed.getD i false = true
    · obtain ⟨g, hg, hS⟩ := hJ.vals
      refine wpAnyZ_tail (by simpa using hback) ((free ++ tail).length - free.length) free.length (fuel + 1) listed a w (by simp) (Nat.le_trans (unl_ge (fun i h1 h2 => hJ.late i h1 (by simpa using h2))) hu) hJ.size hJ.closed hall (fun i h1 h2 => hJ.late i h1 h2) hmask ?_
      have hd : ((free ++ tail).toArray).toList.drop free.length = tail := by simp
      rw [hd]
      have hsame : resOf ss listed g free.length = lastOf ss g free.length := by
        refine flatMap_same _ _ _ fun j hj => ?_
        have := List.mem_range.1 hj
        rw [hall j this, if_pos rfl]
        cases hsj : ss[j]? with
        | none => rfl
        | some sj =>
          unfold Spc.rsL Spc.last
          cases hl2 : sj.late with
          | none => simp [hl2]
          | some kr =>
            obtain ⟨k, r⟩ := kr
            have hk := (hL j sj k r hsj hl2).1
            simp [hl2, hall k (by omega)]
      have hsamf : ∀ (f : Spc → Value → List Fact), ((List.range free.length).flatMap fun i => if listed.getD i false then (match ss[i]? with | some s => f s (g i) | none => []) else []) = ((List.range free.length).flatMap fun i => if (Array.replicate free.length true).getD i false then (match ss[i]? with | some s => f s (g i) | none => []) else []) := by
        intro f
        refine flatMap_same _ _ _ fun j hj => ?_
        have := List.mem_range.1 hj
        rw [hall j this]; simp [this]
      refine fin_use free ss L M R hl hfin g a w hJ.defers hJ.frame hnd (fun i o s e1 e2 => hg i o s e1 e2 (hall i (List.getElem?_eq_some_iff.1 e1).1)) ?_
      rw [hsame] at hS
      have hf : fctOf ss listed g free.length = fctOf ss (Array.replicate free.length true) g free.length := hsamf Spc.fs
      rw [hf] at hS
      exact hS
    · have hex : ∃ i, i < free.length ∧ listed.getD i false = false := by
        apply Classical.byContradiction
        intro hne
        refine hall fun i hi => ?_
        cases h : listed.getD i false
        · exact absurd ⟨i, hi, h⟩ hne
        · rfl
      obtain ⟨k, ⟨hk, hkf⟩, hkm⟩ := least hex
      have hkt : listed.getD k true = false := by
        have : k < listed.size := by rw [hJ.size]; simp; omega
        simp [this] at hkf ⊢; exact hkf
      have hready : k ∈ Region.ready .any (free ++ tail).toArray listed := by
        refine mem_ready.2 ⟨hkt, (free ++ tail)[k]'(by simp; omega), by simp [List.getElem?_eq_getElem (show k < (free ++ tail).length by simp; omega)], fun e he hbi => ?_⟩
        have hlt := hbk k _ (by simp [List.getElem?_eq_getElem (show k < (free ++ tail).length by simp; omega)]) e he hbi
        cases h : listed.getD e.on false
        · exact absurd ⟨by omega, h⟩ (hkm e.on hlt)
        · rfl
      refine ⟨(by obtain ⟨g, _, hS⟩ := hJ.vals; exact hZ _ _ w hS), fun h0 => (by rw [h0] at hready; cases hready), fun i hi => ?_⟩
      obtain ⟨h0, o, hoi, hp⟩ := mem_ready.1 hi
      have him : i < free.length := by
        rcases Nat.lt_or_ge i free.length with h' | h'
        · exact h'
        · have := hmask listed hJ.closed i o h' hoi hp k (by omega)
          rw [hkf] at this; cases this
      refine par_step (by simp only [parB, Bool.and_eq_true]; exact ⟨⟨⟨⟨hns, hfree⟩, hnd0⟩, hback⟩, htail⟩) hl hfr hL hab hstep hJ hi him _ fun a' w' hJ' => ih _ _ _ hJ' ?_
      have hsz : listed.size = (free ++ tail).length := by rw [hJ.size]; simp
      have := unl_set (N := (free ++ tail).length) (i := i) (by have := (List.getElem?_eq_some_iff.1 (show (free ++ tail)[i]? = some o by simpa using hoi)).1; omega) hsz h0
      omega
theorem floatZ_any {fl : List Nat} {m : Nat} {l : List Oper} : ∀ (fuel : Nat) (listed : Array Bool) (a : Act) (w : World), (∀ i ∈ fl, listed.getD i false = true) → wpAnyZ Z P (floatL fl m l).toArray Q fuel listed a w → wpAnyZ Z P l.toArray Q fuel listed a w
  | 0, listed, a, w, hi, h => by
    refine ⟨h.1, ?_, h.2.2⟩
    cases hr : Region.ready .any l.toArray listed with
    | nil => rfl
    | cons x xs =>
      have : x ∈ Region.ready .any (floatL fl m l).toArray listed := (float_ready hi).2 (by rw [hr]; simp)
      rw [h.2.1] at this; cases this
  | fuel + 1, listed, a, w, hi, h => by
    refine ⟨h.1, fun hr => h.2.1 ?_, fun j hj => float_op (wpOp_mono (fun a' w' h' => floatZ_any fuel _ a' w' (fun i hi' => getD_set_true (hi i hi')) h') (h.2.2 j ((float_ready hi).2 hj)))⟩
    cases hr' : Region.ready .any (floatL fl m l).toArray listed with
    | nil => rfl
    | cons x xs =>
      have : x ∈ Region.ready .any l.toArray listed := (float_ready hi).1 (by rw [hr']; simp)
      rw [hr] at this; cases this
/-- Those that may be drawn late look at what stays. -/
def FlZ (Z : World → Prop) (P : Program) (n : Nat) (L : Tm) (free : List Oper) (ss : List Spc) : List Nat → Prop
  | [] => True
  | i :: r => (∃ (o : Oper) (v : Value) (d : Nat), free[i]? = some o ∧ ss[i]? = some (Spc.q v) ∧ o.guard = none ∧ o.dst = some d ∧ Nat.blt d n = true ∧ ∀ a, FSat n (detL (free.take i) (ss.take i) L) a → ∀ w, Z w → (execOp a.eval o).run P w = .ok (.value v) w) ∧ FlZ Z P n L free ss r
theorem FlZ.at {free : List Oper} {ss : List Spc} : ∀ {fl : List Nat}, FlZ Z P n L free ss fl → ∀ i ∈ fl, ∃ (o : Oper) (v : Value) (d : Nat), free[i]? = some o ∧ ss[i]? = some (Spc.q v) ∧ o.guard = none ∧ o.dst = some d ∧ Nat.blt d n = true ∧ ∀ a, FSat n (detL (free.take i) (ss.take i) L) a → ∀ w, Z w → (execOp a.eval o).run P w = .ok (.value v) w
  | [], _, _, h => by cases h
  | j :: r, ⟨h1, h2⟩, i, hi => by
    rcases List.mem_cons.1 hi with rfl | hi
    · exact h1
    · exact FlZ.at h2 i hi
theorem floatZ_all {fl : List Nat} {m : Nat} {l : List Oper} (hZ : ∀ X F w, St W (X ++ M) (F ++ R) w → Z w) (hml : m ≤ l.length) {ss : List Spc} (hpb : parB ((floatL fl m l).take m) ((floatL fl m l).drop m) = true) (hlen : ss.length = ((floatL fl m l).take m).length) (hfr : ∀ o ∈ (floatL fl m l).take m, look L (o.dst.getD 1000000) = none) (hL : LateOK (floatL fl m l).toArray ss)
    (hab : ∀ (i : Nat) (s : Spc) (c : List PanicEntry), ss[i]? = some s → s.ab = some c → Imp W n D L M R (NoP Q (.panic c)))
    (hstep : ∀ i o s, ((floatL fl m l).take m)[i]? = some o → ss[i]? = some s → Step1 P W n M R (floatL fl m l).toArray ss i o s (detL (((floatL fl m l).take m).take i) (ss.take i) L))
    (hfin : Fin W n D (wpListZ Z P (floatL fl m l).toArray (NoP Q) ((floatL fl m l).drop m)) ((floatL fl m l).take m) ss L M R)
    (hfl : FlZ Z P n L ((floatL fl m l).take m) ss fl) (hns : Region.noSelect l.toArray = true) (hbk : backB l = true) (htl : tailF fl (masks l []) m l.length = true) (hfs : freesB l fl = true) :
    ∀ (fuel : Nat) (listed : Array Bool) (a : Act) (w : World), J W n D L M R (floatL fl m l).toArray ((floatL fl m l).take m) ss listed a w → unl l.length listed ≤ fuel → wpAnyZ Z P l.toArray (NoP Q) fuel listed a w := by
  have hflat := hfl.at
  have hFat := floatL_at fl m l
  have hFlen := floatL_len fl m l
  generalize hF : floatL fl m l = F at *
  have hsplit : F.take m ++ F.drop m = F := List.take_append_drop m F
  have hmF : (F.take m).length = m := by rw [List.length_take]; omega
  have hlow : ∀ j, j < m → F[j]? = l[j]? := fun j hj => by
    rw [hFat j]; cases l[j]? with
    | none => rfl
    | some o => simp [hj]
  have hfree : ∀ j, j < m → (F.take m)[j]? = l[j]? := fun j hj => by rw [List.getElem?_take, if_pos hj, hlow j hj]
  have hlate : LateOK (F.take m ++ F.drop m).toArray ss := by rw [hsplit]; exact hL
  have hst' : ∀ i o s, (F.take m)[i]? = some o → ss[i]? = some s → Step1 P W n M R (F.take m ++ F.drop m).toArray ss i o s (detL ((F.take m).take i) (ss.take i) L) := by rw [hsplit]; exact hstep
  have hclosed : ∀ listed, Closed F.toArray listed → Closed l.toArray listed := fun listed hc j o ho hj e he hb => by
    have ho : l[j]? = some o := by simpa using ho
    refine hc j (if j < m then o else addE fl o) (by rw [List.getElem?_toArray, hFat, ho]; rfl) hj e ?_ hb
    split
    · exact he
    · unfold addE; exact Array.mem_append_left _ he
  have hback : ∀ i o, l[i]? = some o → ∀ e ∈ o.after, Region.binds .any e = true → e.on < i := by
    intro i o ho e he hbi
    have hlt : i < l.length := (List.getElem?_eq_some_iff.1 ho).1
    have := List.all_eq_true.1 hbk i (List.mem_range.2 hlt)
    rw [ho] at this
    have := Array.all_eq_true_iff_forall_mem.1 this e he
    simpa [hbi] using this
  intro fuel
  induction fuel with
  | zero =>
    intro listed a w hJ hu
    have hsz : listed.size = l.length := by rw [hJ.size]; simp [hFlen]
    have hall : ∀ i ∈ fl, listed.getD i false = true := fun i hi => by
      obtain ⟨o, v, d, ho, _⟩ := hflat i hi
      have hi' : i < m := by have := (List.getElem?_eq_some_iff.1 ho).1; omega
      cases h : listed.getD i true with
      | true =>
        have : i < listed.size := by omega
        simp [this] at h ⊢; exact h
      | false =>
        have := unl_set (N := l.length) (i := i) (by omega) hsz h
        omega
    refine floatZ_any (fl := fl) (m := m) 0 listed a w hall ?_
    rw [hF, ← hsplit]
    replace hJ : J W n D L M R (F.take m ++ F.drop m).toArray (F.take m) ss listed a w := by rw [hsplit]; exact hJ
    exact parZ_any hZ hpb hlen hfr hlate hab hst' (by rw [hsplit]; exact hfin) 0 listed a w hJ (by rw [hsplit, hFlen]; exact hu)
  | succ fuel ih =>
    intro listed a w hJ hu
    have hsz : listed.size = l.length := by rw [hJ.size]; simp [hFlen]
    have hboth : ∀ j, j < l.length → listed.getD j true = listed.getD j false := fun j hj => by
      have : j < listed.size := by omega
      simp [this]
    by_cases hall : ∀ i ∈ fl, listed.getD i false = true
    · refine floatZ_any (fl := fl) (m := m) (fuel + 1) listed a w hall ?_
      rw [hF, ← hsplit]
      replace hJ : J W n D L M R (F.take m ++ F.drop m).toArray (F.take m) ss listed a w := by rw [hsplit]; exact hJ
      exact parZ_any hZ hpb hlen hfr hlate hab hst' (by rw [hsplit]; exact hfin) (fuel + 1) listed a w hJ (by rw [hsplit, hFlen]; exact hu)
    · by_cases hrd : ∃ i ∈ fl, i ∈ Region.ready .any l.toArray listed
      · obtain ⟨i, hi, hir⟩ := hrd
        obtain ⟨o, v, d, ho, hs, hg, hdst, hdn, hpure⟩ := hflat i hi
        have him : i < m := by have := (List.getElem?_eq_some_iff.1 ho).1; omega
        have hol : l[i]? = some o := by rw [← hfree i him]; exact ho
        obtain ⟨h0, o', ho', hp⟩ := mem_ready.1 hir
        have ho' : l[i]? = some o' := by simpa using ho'
        rw [hol] at ho'; cases ho'
        have hJ' : J W n D L M R (F.take m ++ F.drop m).toArray (F.take m) ss listed a w := by rw [hsplit]; exact hJ
        obtain ⟨a', g, f1, hex, hgv, hS⟩ := frame_at hpb hlen hfr hlate hab hst' hJ' ho hp
        have hirF : i ∈ Region.ready .any (F.take m ++ F.drop m).toArray listed := by
          rw [hsplit]
          exact mem_ready.2 ⟨h0, o, by rw [List.getElem?_toArray, hlow i him]; exact hol, hp⟩
        have hy : YieldsZ Z P l.toArray o v a := ⟨by simp [Region.wanted, hg], fun w hz => by rw [hex]; exact hpure a' f1 w hz⟩
        refine wpAnyZ_first (i := i) (oi := o) (v := v) (by simpa using hol) (Region.noSelect_spec hns) fuel listed a w (freeAt_spec hol (List.all_eq_true.1 hfs i hi) hp) hir hy ?_
        · have hnd : Inj (F.take m) := by
            simp only [parB, Bool.and_eq_true] at hpb
            exact injB_sound hpb.1.1.2
          have hset : (resOf ss listed g (F.take m).length ++ M).Perm (restOf ss listed g (F.take m).length i ++ M) := by
            refine List.Perm.append_right M (List.Perm.of_eq ?_)
            refine flatMap_same _ _ _ fun j hj => ?_
            by_cases e : j = i
            · subst e
              have : listed.getD j false = false := by rw [← hboth j (by omega)]; exact h0
              rw [if_pos rfl, this, hs]; rfl
            · rw [if_neg e]
          have hJn := hJ.next (v := v) (o := o) (s := Spc.q v) (i := i) (w' := w) hnd hfr (by simp [hFlen, hmF]; omega) (by rw [← hsplit]; exact hirF) (by rw [List.getElem?_toArray, hlow i him]; exact hol) ho hs (by rw [hdst]; exact hdn) rfl rfl hL hgv (hS.perm hset)
          refine ih _ _ _ hJn ?_
          have := unl_set (N := l.length) (i := i) (by omega) hsz h0
          omega
      · have hex : ∃ i, (i ∈ fl ∧ listed.getD i false = false) := by
          apply Classical.byContradiction
          intro hne
          refine hall fun i hi => ?_
          cases h : listed.getD i false
          · exact absurd ⟨i, hi, h⟩ hne
          · rfl
        obtain ⟨k, ⟨hk, hkf⟩, hkm⟩ := least hex
        obtain ⟨ok, vk, dk, hok, _⟩ := hflat k hk
        have hkm' : k < m := by have := (List.getElem?_eq_some_iff.1 hok).1; omega
        have hokl : l[k]? = some ok := by rw [← hfree k hkm']; exact hok
        have hlt : ∀ j, j ∈ Region.ready .any l.toArray listed → j < m := by
          intro j hj
          rcases Nat.lt_or_ge j m with h | h
          · exact h
          · exfalso
            obtain ⟨j0, o, hoj, hp⟩ := mem_ready.1 hj
            have hoj' : l[j]? = some o := by simpa using hoj
            have hjl : j < l.length := (List.getElem?_eq_some_iff.1 hoj').1
            have h1 := List.all_eq_true.1 htl j (List.mem_range.2 hjl)
            simp only [Bool.or_eq_true] at h1
            have hnon : ∀ t, t < j → t ∉ fl → listed.getD t false = true := fun t ht hnf => by
              rcases h1 with h1 | h1
              · have : j < m := by simpa using h1
                omega
              · have h2 := List.all_eq_true.1 h1 t (List.mem_range.2 ht)
                simp only [Bool.or_eq_true, List.contains_eq_mem, decide_eq_true_eq] at h2
                rcases h2 with h2 | h2
                · exact absurd h2 hnf
                · exact (masks_sound (ops := l.toArray) (hclosed listed hJ.closed) l [] (fun j => by simp) (fun i hi => by simp at hi)).1 j o (Nat.zero_le _) hoj hp t h2
            refine hrd ⟨k, hk, mem_ready.2 ⟨by rw [hboth k (by omega)]; exact hkf, ok, by simpa using hokl, fun e he hb => ?_⟩⟩
            have hek := hback k ok hokl e he hb
            by_cases hef : e.on ∈ fl
            · cases h : listed.getD e.on false
              · exact absurd ⟨hef, h⟩ (hkm e.on hek)
              · rfl
            · exact hnon e.on (by omega) hef
        refine ⟨(by obtain ⟨g, _, hS⟩ := hJ.vals; exact hZ _ _ w hS), fun hr => ?_, fun j hj => ?_⟩
        · exfalso
          have hex2 : ∃ t, t < l.length ∧ listed.getD t false = false := ⟨k, by omega, hkf⟩
          obtain ⟨t, ⟨ht, htf⟩, htm⟩ := least hex2
          have : t ∈ Region.ready .any l.toArray listed := mem_ready.2 ⟨by rw [hboth t ht]; exact htf, l[t], by simp, fun e he hb => by
            have hlt2 := hback t l[t] (List.getElem?_eq_getElem ht) e he hb
            cases h : listed.getD e.on false
            · exact absurd ⟨by omega, h⟩ (htm e.on hlt2)
            · rfl⟩
          rw [hr] at this; cases this
        · have hjm := hlt j hj
          obtain ⟨j0, o, hoj, hp⟩ := mem_ready.1 hj
          have hoj' : l[j]? = some o := by simpa using hoj
          refine float_op (fl := fl) (m := m) ?_
          rw [hF, ← hsplit]
          replace hJ : J W n D L M R (F.take m ++ F.drop m).toArray (F.take m) ss listed a w := by rw [hsplit]; exact hJ
          refine par_step hpb hlen hfr hlate hab hst' hJ (mem_ready.2 ⟨j0, o, ?_, hp⟩) (by omega) _ fun a' w' hJ' => ih _ _ _ (by rw [hsplit] at hJ'; exact hJ') ?_
          · rw [List.getElem?_toArray, hsplit, hlow j hjm]; exact hoj'
          · have := unl_set (N := l.length) (i := j) (by have := (List.getElem?_eq_some_iff.1 hoj').1; omega) hsz j0
            omega
/-- A load of a variable that is owned. -/
theorem float_load {o : Oper} {T B : TypeId} {x : Operand} {b : Nat} {vs : List Value} {d : TypeDesc} {i : TypeInfo} (ho : o.op = .load T x) (hT : P.underlying T = some d) (hd : aggD d = true) (hi : P.info? T = some i) (hx : ev L x = some (pt b 0)) (hu : vs.length = i.size) (hz : ∀ w, Z w → w.heap[b]? = some (.cells vs.toArray B (0, 0))) : ∀ a, FSat n L a → ∀ w, Z w → (execOp a.eval o).run P w = .ok (.value (.agg vs.toArray)) w := fun a ha w h => by
  have hs : St w [bx b B vs] [] w := ⟨rfl, rfl, rfl, [(b, .cells vs.toArray B (0, 0))], ⟨[(b, .cells vs.toArray B (0, 0))], [], rfl, rfl, rfl⟩, ⟨by simp [keys], fun p hp => by
    have : p = (b, .cells vs.toArray B (0, 0)) := by simpa using hp
    subst this; exact hz w h⟩, fun φ hφ => by cases hφ⟩
  have hagg := run_isAgg' (w := w) hT
  rw [hd] at hagg
  have hl := run_loadCells_bx (P := P) (off := 0) (k := i.size) hs (List.mem_singleton.2 rfl) hu (fun j _ => by rw [Nat.zero_add])
  simp [execOp, ho, ha.ev hx, Instr.loadAt, pt, Instr.sureAddr, loadVar, hagg, run_sizeOf' hi, hl]
theorem float_mv {o : Oper} {x : Operand} {v : Value} (ho : o.op = .move x) (hx : ev L x = some v) : ∀ a, FSat n L a → ∀ w, Z w → (execOp a.eval o).run P w = .ok (.value v) w := fun a h w _ => float_move ho hx a h w
theorem float_field {o : Oper} {T : TypeId} {x : Operand} {b off j : Nat} {fs : Array Field} {f : Field} {i : TypeInfo} (ho : o.op = .fieldAddr T x j) (hT : P.underlying T = some (.struct fs)) {ft : TypeId} (hi : P.info? ft = some i) (hf : fs[j]? = some f) (hft : f.type = ft) (hz : Nat.beq i.size 0 = false)
    (hx : ev L x = some (pt b off)) : ∀ a, FSat n L a → ∀ w, Z w → (execOp a.eval o).run P w = .ok (.value (pt b (off + f.offset))) w := fun a h1 w _ => by
  subst hft
  have hz' : ¬ i.size = 0 := fun e => by rw [e] at hz; cases hz
  simp [execOp, ho, h1.ev hx, Instr.fieldAt, pt, run_underlying hT, hf, Instr.sureAddr, fieldPlace, run_sizeOf' hi, hz', add_at]
theorem float_cell {o : Oper} {T B : TypeId} {x : Operand} {b off : Nat} {vs : List Value} {v : Value} {d : TypeDesc} (ho : o.op = .load T x) (hT : P.underlying T = some d) (hd : aggD d = false)
    (hx : ev L x = some (pt b off)) (hv : vs[off]? = some v) (hz : ∀ w, Z w → w.heap[b]? = some (.cells vs.toArray B (0, 0))) : ∀ a, FSat n L a → ∀ w, Z w → (execOp a.eval o).run P w = .ok (.value v) w := fun a h1 w h => by
  have hs : St w [bx b B vs] [] w := ⟨rfl, rfl, rfl, [(b, .cells vs.toArray B (0, 0))], ⟨[(b, .cells vs.toArray B (0, 0))], [], rfl, rfl, rfl⟩, ⟨by simp [keys], fun p hp => by
    have : p = (b, .cells vs.toArray B (0, 0)) := by simpa using hp
    subst this; exact hz w h⟩, fun φ hφ => by cases hφ⟩
  have hc := hs.cell (List.mem_singleton.2 rfl) off
  rw [hv] at hc
  have hagg := run_isAgg' (w := w) hT
  rw [hd] at hagg
  simp [execOp, ho, h1.ev hx, Instr.loadAt, pt, Instr.sureAddr, loadVar, hagg, hc]
theorem float_build {o : Oper} {T : TypeId} {ps : List (Nat × Operand)} {vs : List Value} {i : TypeInfo} {z : Value} {fs : Array Field} {pl : List (Nat × Nat)} {cs : List Value} (ho : o.op = .build T ps.toArray) (hT : P.underlying T = some (.struct fs)) (hi : P.info? T = some i) (hp : plT P T = some pl) (hz : i.zero = some z)
    (hx : evs L (ps.map (·.2)) = some vs) (hk : ps.map (·.1) = List.range ps.length) (hpl : PlaceOK (fun k => pl[k]?) 0 0 vs) [hc : CatC vs cs] (hl : cs.length = z.cells.size) : ∀ a, FSat n L a → ∀ w, Z w → (execOp a.eval o).run P w = .ok (.value (.agg cs.toArray)) w := fun a h1 w _ => by
  have hu := parts_eq h1 hx hk
  have hf := fill_all hpl hc.cat hl
  simp only [execOp, ho, Instr.build, Sem.run_bind, run_zeroValue' hi hz, run_underlying hT, Result.andThen_ok, plT_run hT hp w, List.map_toArray, hu]
  simp [hf]
end Go.G


namespace Go.G
open MapKept
variable {P : Program} {W : World} {n : Nat} {D : List Deferred} {L : Tm} {M : List Res} {R : List Fact} {Q : Exit → Act → World → Prop} {o : Oper}
/-- What a map holds. -/
abbrev Cont := Value → Option Value
structure Holds (P : Program) (k : TypeId) (G : Cont) (es : Array MapEntry) (clock : Nat) : Prop where
  st : Stamped es clock
  keys : ∀ e ∈ es.toList, ∃ l, keyOf P k e.key = some l
  yes : ∀ e ∈ es.toList, G e.key = some e.val
  no : ∀ kv, (∀ e ∈ es.toList, e.key ≠ kv) → G kv = none
def mapG (P : Program) (k : TypeId) (b : Nat) (G : Cont) : Res := fun s => ∃ es clock, s = [(b, .map es clock)] ∧ Holds P k G es clock
noncomputable def Cont.put (G : Cont) (kv u : Value) : Cont := fun x => match Classical.propDecidable (x = kv) with
  | .isTrue _ => some u
  | .isFalse _ => G x
theorem Cont.put_eq (G : Cont) (kv u : Value) : G.put kv u kv = some u := by
  unfold Cont.put; split
  · rfl
  · rename_i h _; exact absurd rfl h
theorem Cont.put_ne (G : Cont) {kv x : Value} (u : Value) (h : x ≠ kv) : G.put kv u x = G x := by
  unfold Cont.put; split
  · rename_i h2 _; exact absurd h2 h
  · rfl
theorem Holds.empty (P : Program) (k : TypeId) : Holds P k (fun _ => none) #[] 0 :=
  ⟨⟨fun x hx => by simp at hx, by simp, by simp⟩, fun e he => by simp at he, fun e he => by simp at he, fun _ _ => rfl⟩
theorem mapG_at {k : TypeId} {b : Nat} {G : Cont} {M' : List Res} {w : World} (h : St W M R w) (hd : Del M (mapG P k b G) M') : ∃ es clock, w.heap[b]? = some (.map es clock) ∧ Holds P k G es clock := by
  obtain ⟨s, ⟨s1, s2, _, ⟨es, clock, rfl, hh⟩, _⟩, hO, _⟩ := (h.perm hd.perm).mem
  exact ⟨es, clock, hO.at_ (b, .map es clock) (by simp_all), hh⟩
theorem o_makeMapG {ops : Array Oper} {rest : List Oper} {T k : TypeId} {d : Nat} (ho : o.op = .makeMap T none) (hg : o.guard = none) (hdst : o.dst = some d) (hd : Nat.blt d n = true)
    (h : ∀ b, Imp W n D ((d, .map (some b)) :: L) (mapG P k b (fun _ => none) :: M) R (wpList P ops Q rest)) : Imp W n D L M R (wpList P ops Q (o :: rest)) := by
  intro a w h1 h2 h3
  refine wpList_plain hg fun K hK => ?_
  unfold Oper.wp
  have hrun : (execOp a.eval o).run P w = .ok (.value (.map (some w.heap.size))) (w.alloc (.map #[] 0)) := by
    unfold execOp
    simp only [ho]
    rfl
  rw [hrun, Oper.upon_value, hdst]
  refine hK _ _ (h w.heap.size _ _ (h1.put (by simpa using hd) _) (by rw [put_defers]; exact h2) ?_)
  have h4 := h3.push (.map #[] 0)
  obtain ⟨s, ⟨s1, s2, rfl, hs1, hM⟩, hO, hR⟩ := h4.mem
  exact ⟨h4.os, h4.tape, h4.output, s1 ++ s2, ⟨s1, s2, rfl, ⟨#[], 0, hs1, Holds.empty P k⟩, hM⟩, hO, hR⟩
theorem v_lookG {k T e : TypeId} {b : Nat} {kv z : Value} (G : Cont) {M' : List Res} {l : Lit} {i : TypeInfo} {x y : Operand} {cm : Bool} (r : Option Value) [hM : DelC M (mapG P k b G) M'] (hl : WideMaps.KeyLaw P k) (hk : keyOf P k kv = some l)
    (ho : o.op = .lookup T x y cm) (hT : P.underlying T = some (.map k e)) (hi : P.info? e = some i) (hz : i.zero = some z) (hr : G kv = r) (hx : ev L x = some (.map (some b))) (hy : ev L y = some kv) :
    OpQ P W n L M R o (if cm then .tuple #[r.getD z, .bool r.isSome] else r.getD z) :=
  OpQ.of_value fun a w g1 g3 => by
    obtain ⟨es, clock, hb, hh⟩ := mapG_at g3 hM.del
    have e1 := g1.ev hx
    have e2 := g1.ev hy
    have hz' : (zeroValue e).run P w = .ok z w := run_zeroValue' hi hz
    rcases hl.find w hk es.toList hh.keys with ⟨hf, hne⟩ | ⟨j, e', hf, hj, he'⟩
    · have h2 := hh.no kv hne
      rw [hr] at h2; subst h2
      unfold execOp
      cases cm <;> simp [ho, e1, e2, Instr.lookup, run_underlying hT, getObj, Sem.run, hb, hl.check w _ hk, hf, hz', Sem.run_bind, Sem.run_pure, Result.andThen]
    · have h2 := hh.yes e' (List.mem_of_getElem? hj)
      rw [he', hr] at h2; subst h2
      unfold execOp
      cases cm <;> simp [ho, e1, e2, Instr.lookup, run_underlying hT, getObj, Sem.run, hb, hl.check w _ hk, hf, Sem.run_bind, Sem.run_pure, Result.andThen]
/-- Between a place's finding and its filling. -/
def mapP (P : Program) (k : TypeId) (b : Nat) (G : Cont) (kv : Value) (st : Nat) : Res := fun s => ∃ es clock, s = [(b, .map es clock)] ∧ Stamped es clock ∧ (∀ e ∈ es.toList, ∃ l, keyOf P k e.key = some l) ∧ (∃ e ∈ es.toList, e.key = kv ∧ e.born = st) ∧ (∀ e ∈ es.toList, e.key ≠ kv → G e.key = some e.val) ∧ (∀ x, x ≠ kv → (∀ e ∈ es.toList, e.key ≠ x) → G x = none)
theorem St.setMap {w : World} {b : Nat} {r r' : Res} {y : Obj} {x : Obj} {M' : List Res} (h : St W M R w) (hd : Del M r M') (hr : ∀ s, r s → ∃ x, s = [(b, x)]) (hr' : r' [(b, y)]) : St W (r' :: M') R (w.putObj b y) := by
  have h4 := h.perm hd.perm
  refine h4.replace (M' := r' :: M') Upd.here rfl rfl rfl ?_
  intro s hs hO
  obtain ⟨x, rfl⟩ := hr s hs
  have hlt : b < w.heap.size := (Array.getElem?_eq_some_iff.1 (hO.at_ (b, x) (by simp))).1
  refine ⟨[(b, y)], hr', ⟨by simp [keys], ?_⟩, ?_, ?_⟩
  · intro p hp
    have : p = (b, y) := by simpa using hp
    subst this
    exact World.putObj_heap_same hlt
  · intro c hc; exact .inl (by simpa [keys] using hc)
  · intro c _ hc
    exact World.putObj_heap_other (by intro e; subst e; exact hc (by simp [keys]))
/-- A value is laid down. -/
theorem o_mapUpdG {ops : Array Oper} {rest : List Oper} {T k e : TypeId} {x y v : Operand} {b : Nat} {kv u : Value} {l : Lit} {G : Cont} {M' : List Res} [hM : DelC M (mapG P k b G) M'] (hl : WideMaps.KeyLaw P k) (hk : keyOf P k kv = some l)
    (ho : o.op = .mapUpdate T x y v) (hT : P.underlying T = some (.map k e)) (hg : o.guard = none) (hdst : o.dst = none)
    (hx : ev L x = some (.map (some b))) (hy : ev L y = some kv) (hv : ev L v = some u)
    (h : Imp W n D L (mapG P k b (G.put kv u) :: M') R (wpList P ops Q rest)) : Imp W n D L M R (wpList P ops Q (o :: rest)) := by
  intro a w h1 h2 h3
  refine wpList_plain hg fun K hK => ?_
  unfold Oper.wp
  obtain ⟨es, clock, hb, hh⟩ := mapG_at h3 hM.del
  have one : ∀ s, mapG P k b G s → ∃ x, s = [(b, x)] := fun s ⟨es, c, hs, _⟩ => ⟨_, hs⟩
  obtain ⟨s1, s2, s3⟩ := hh.st
  have key : ∀ ρ : Operand → Value, ρ x = .map (some b) → ρ y = kv → ρ v = u → ∃ es' clock', (execOp ρ o).run P w = .ok .skip (w.putObj b (.map es' clock')) ∧ Holds P k (G.put kv u) es' clock' := by
    intro ρ e1 e2 e3
    rcases hl.find w hk es.toList hh.keys with ⟨hf, hne⟩ | ⟨j, e0, hf, hj, he0⟩
    · refine ⟨es.push { key := kv, val := u, born := clock }, clock + 1, ?_, ⟨?_, ?_, ?_⟩, ?_, ?_, ?_⟩
      · unfold execOp
        simp [ho, e1, e2, e3, Instr.mapUpdate, run_underlying hT, getObj, setObj, Sem.run, hb, hl.check w _ hk, hf, Sem.run_bind, Sem.run_pure, Result.andThen, World.putObj]
      · intro e he
        rcases List.mem_append.1 (by simpa using he : e ∈ es.toList ++ [{ key := kv, val := u, born := clock }]) with he | he
        · have := s1 e he; omega
        · have : e = { key := kv, val := u, born := clock } := by simpa using he
          subst this; show clock < clock + 1; omega
      · simp only [Array.toList_push, List.map_append, List.map_cons, List.map_nil]
        refine List.nodup_append.2 ⟨s2, by simp, fun p hp q hq e1 => ?_⟩
        simp only [List.mem_singleton] at hq
        obtain ⟨x, hx, rfl⟩ := List.mem_map.1 hp
        have := s1 x hx
        omega
      · simp only [Array.toList_push, List.map_append, List.map_cons, List.map_nil]
        refine List.nodup_append.2 ⟨s3, by simp, fun p hp q hq e1 => ?_⟩
        simp only [List.mem_singleton] at hq
        obtain ⟨x, hx, rfl⟩ := List.mem_map.1 hp
        exact hne x hx (e1.trans hq)
      · intro e he
        rcases List.mem_append.1 (by simpa using he : e ∈ es.toList ++ [{ key := kv, val := u, born := clock }]) with he | he
        · exact hh.keys e he
        · have : e = { key := kv, val := u, born := clock } := by simpa using he
          subst this; exact ⟨l, hk⟩
      · intro e he
        rcases List.mem_append.1 (by simpa using he : e ∈ es.toList ++ [{ key := kv, val := u, born := clock }]) with he | he
        · rw [G.put_ne u (hne e he)]; exact hh.yes e he
        · have : e = { key := kv, val := u, born := clock } := by simpa using he
          subst this; exact G.put_eq kv u
      · intro x hx
        have hxk : x ≠ kv := fun e1 => by subst e1; exact hx { key := x, val := u, born := clock } (by simp) rfl
        rw [G.put_ne u hxk]
        exact hh.no x fun e he => hx e (by simp [he])
    · have hj' : es[j]? = some e0 := by simpa using hj
      have hst := hl.stays w hk
      have hget : ∀ m, (es.modify j fun e => { e with key := kv, val := u }).toList[m]? = if j = m then some { e0 with val := u } else es.toList[m]? := fun m => by
        rw [Array.getElem?_toList, Array.getElem?_modify, Array.getElem?_toList]
        split
        · rename_i e; subst e; rw [hj', ← he0]; rfl
        · rfl
      have hmem : ∀ e, e ∈ (es.modify j fun e => { e with key := kv, val := u }).toList → e = { e0 with val := u } ∨ (e ∈ es.toList ∧ e.key ≠ kv) := fun e he => by
        obtain ⟨m, hm⟩ := List.mem_iff_getElem?.1 he
        rw [hget] at hm
        split at hm
        · exact .inl (Option.some.inj hm).symm
        · rename_i hjm
          refine .inr ⟨List.mem_of_getElem? hm, fun hk2 => ?_⟩
          have n1 : (es.toList.map (·.key))[j]? = some kv := by rw [List.getElem?_map, hj]; simp [he0]
          have n2 : (es.toList.map (·.key))[m]? = some kv := by rw [List.getElem?_map, hm]; simp [hk2]
          have l1 := (List.getElem?_eq_some_iff.1 n1)
          have l2 := (List.getElem?_eq_some_iff.1 n2)
          exact hjm ((List.getElem_inj s3).1 (l1.2.trans l2.2.symm))
      have he0m : e0 ∈ es.toList := List.mem_of_getElem? hj
      have hmapK : (es.modify j fun e => { e with key := kv, val := u }).toList.map (·.key) = es.toList.map (·.key) := by
        apply List.ext_getElem?
        intro m
        rw [List.getElem?_map, List.getElem?_map, hget]
        split
        · rename_i e; subst e; rw [hj]; rfl
        · rfl
      have hmapB : (es.modify j fun e => { e with key := kv, val := u }).toList.map (·.born) = es.toList.map (·.born) := by
        apply List.ext_getElem?
        intro m
        rw [List.getElem?_map, List.getElem?_map, hget]
        split
        · rename_i e; subst e; rw [hj]; rfl
        · rfl
      refine ⟨es.modify j fun e => { e with key := kv, val := u }, clock, ?_, ⟨?_, by rw [hmapB]; exact s2, by rw [hmapK]; exact s3⟩, ?_, ?_, ?_⟩
      · unfold execOp
        simp [ho, e1, e2, e3, Instr.mapUpdate, run_underlying hT, getObj, setObj, Sem.run, hb, hl.check w _ hk, hf, hj', he0, hst, Sem.run_bind, Sem.run_pure, Result.andThen, World.putObj]
      · intro e he
        rcases hmem e he with rfl | ⟨he, _⟩
        · exact s1 e0 he0m
        · exact s1 e he
      · intro e he
        rcases hmem e he with rfl | ⟨he, _⟩
        · exact hh.keys e0 he0m
        · exact hh.keys e he
      · intro e he
        rcases hmem e he with rfl | ⟨he, hn⟩
        · show G.put kv u e0.key = some u
          rw [he0]; exact G.put_eq kv u
        · rw [G.put_ne u hn]; exact hh.yes e he
      · intro x hx
        have hxk : x ≠ kv := fun e1 => by
          subst e1
          exact (hx { e0 with val := u } (List.mem_of_getElem? (i := j) (by rw [hget, if_pos rfl])) he0).elim
        rw [G.put_ne u hxk]
        refine hh.no x fun e he hke => ?_
        obtain ⟨m, hm⟩ := List.mem_iff_getElem?.1 he
        have hjm : j ≠ m := fun e1 => by
          subst e1
          rw [hj] at hm
          have := Option.some.inj hm
          subst this
          exact hxk (hke.symm.trans he0)
        exact hx e (List.mem_of_getElem? (i := m) (by rw [hget, if_neg hjm]; exact hm)) hke
  obtain ⟨es', clock', hr, hh'⟩ := key _ (h1.ev hx) (h1.ev hy) (h1.ev hv)
  rw [hr, Oper.upon_skip, hdst]
  exact hK _ _ (h a _ h1 h2 (h3.setMap (x := .map es clock) hM.del one ⟨_, _, rfl, hh'⟩))
/-- A place is found, or made. -/
theorem o_mapEntry {ops : Array Oper} {rest : List Oper} {T k e : TypeId} {x y : Operand} {b d : Nat} {kv z : Value} {l : Lit} {i : TypeInfo} {G : Cont} {M' : List Res} [hM : DelC M (mapG P k b G) M'] (hl : WideMaps.KeyLaw P k) (hk : keyOf P k kv = some l)
    (ho : o.op = .mapEntry T x y) (hT : P.underlying T = some (.map k e)) (hi : P.info? e = some i) (hz : i.zero = some z) (hg : o.guard = none) (hdst : o.dst = some d) (hd : Nat.blt d n = true)
    (hx : ev L x = some (.map (some b))) (hy : ev L y = some kv)
    (h : ∀ v0 st, Imp W n D ((d, .tuple #[v0, .int .i64 (st : Nat)]) :: L) (mapP P k b G kv st :: M') R (wpList P ops Q rest)) : Imp W n D L M R (wpList P ops Q (o :: rest)) := by
  intro a w h1 h2 h3
  refine wpList_plain hg fun K hK => ?_
  unfold Oper.wp
  obtain ⟨es, clock, hb, hh⟩ := mapG_at h3 hM.del
  have hz' : ∀ u : World, (zeroValue e).run P u = .ok z u := fun u => run_zeroValue' hi hz
  have one : ∀ s, mapG P k b G s → ∃ x, s = [(b, x)] := fun s ⟨es, c, hs, _⟩ => ⟨_, hs⟩
  have key : ∀ ρ : Operand → Value, ρ x = .map (some b) → ρ y = kv → ∃ v0 st es' clock', (execOp ρ o).run P w = .ok (.value (.tuple #[v0, .int .i64 (st : Nat)])) (w.putObj b (.map es' clock')) ∧ mapP P k b G kv st [(b, .map es' clock')] := by
    intro ρ e1 e2
    obtain ⟨s1, s2, s3⟩ := hh.st
    rcases hl.find w hk es.toList hh.keys with ⟨hf, hne⟩ | ⟨j, e0, hf, hj, he0⟩
    · refine ⟨z, clock, es.push { key := kv, val := z, born := clock }, clock + 1, ?_, _, _, rfl, ⟨?_, ?_, ?_⟩, ?_, ⟨{ key := kv, val := z, born := clock }, by simp, rfl, rfl⟩, ?_, ?_⟩
      · unfold execOp
        simp [ho, e1, e2, Instr.mapEntry, run_underlying hT, getObj, setObj, Sem.run, hb, hl.check w _ hk, hf, hz', Sem.run_bind, Sem.run_pure, Result.andThen, World.putObj, goInt]
      · intro e he
        rcases List.mem_append.1 (by simpa using he : e ∈ es.toList ++ [{ key := kv, val := z, born := clock }]) with he | he
        · have := s1 e he; omega
        · have : e = { key := kv, val := z, born := clock } := by simpa using he
          subst this; show clock < clock + 1; omega
      · simp only [Array.toList_push, List.map_append, List.map_cons, List.map_nil]
        refine List.nodup_append.2 ⟨s2, by simp, fun p hp q hq e1 => ?_⟩
        simp only [List.mem_singleton] at hq
        obtain ⟨x, hx, rfl⟩ := List.mem_map.1 hp
        have := s1 x hx
        omega
      · simp only [Array.toList_push, List.map_append, List.map_cons, List.map_nil]
        refine List.nodup_append.2 ⟨s3, by simp, fun p hp q hq e1 => ?_⟩
        simp only [List.mem_singleton] at hq
        obtain ⟨x, hx, rfl⟩ := List.mem_map.1 hp
        exact hne x hx (e1.trans hq)
      · intro e he
        rcases List.mem_append.1 (by simpa using he : e ∈ es.toList ++ [{ key := kv, val := z, born := clock }]) with he | he
        · exact hh.keys e he
        · have : e = { key := kv, val := z, born := clock } := by simpa using he
          subst this; exact ⟨l, hk⟩
      · intro e he hn
        rcases List.mem_append.1 (by simpa using he : e ∈ es.toList ++ [{ key := kv, val := z, born := clock }]) with he | he
        · exact hh.yes e he
        · have : e = { key := kv, val := z, born := clock } := by simpa using he
          subst this; exact absurd rfl hn
      · intro x hx hn
        exact hh.no x fun e he => hn e (by simp [he])
    · have hj' : es[j]? = some e0 := by simpa using hj
      have hst := hl.stays w hk
      have hsame : es.modify j (fun e => { e with key := kv }) = es := by
        apply Array.ext'
        apply List.ext_getElem?
        intro m
        rw [Array.getElem?_toList, Array.getElem?_toList, Array.getElem?_modify]
        split
        · rename_i e; subst e
          rw [hj', Option.map_some, ← he0]
        · rfl
      refine ⟨e0.val, e0.born, es, clock, ?_, _, _, rfl, hh.st, hh.keys, ⟨e0, List.mem_of_getElem? hj, he0, rfl⟩, fun e he _ => hh.yes e he, fun x _ hn => hh.no x hn⟩
      unfold execOp
      simp [ho, e1, e2, Instr.mapEntry, run_underlying hT, getObj, setObj, Sem.run, hb, hl.check w _ hk, hf, hj', he0, hst, hsame, Sem.run_bind, Sem.run_pure, Result.andThen, goInt]
      rfl
  obtain ⟨v0, st, es', clock', hr, hp⟩ := key _ (h1.ev hx) (h1.ev hy)
  rw [hr, Oper.upon_value, hdst]
  exact hK _ _ (h v0 st _ _ (h1.put (by simpa using hd) _) (by rw [put_defers]; exact h2) (h3.setMap (x := .map es' clock') hM.del one hp))
/-- .. and filled. -/
theorem o_entryStore {ops : Array Oper} {rest : List Oper} {T k : TypeId} {x y v : Operand} {b st : Nat} {kv u : Value} {G : Cont} {M' : List Res} [hM : DelC M (mapP P k b G kv st) M']
    (ho : o.op = .entryStore T x y v) (hg : o.guard = none) (hdst : o.dst = none)
    (hx : ev L x = some (.map (some b))) (hy : ev L y = some (.int .i64 (st : Nat))) (hv : ev L v = some u)
    (h : Imp W n D L (mapG P k b (G.put kv u) :: M') R (wpList P ops Q rest)) : Imp W n D L M R (wpList P ops Q (o :: rest)) := by
  intro a w h1 h2 h3
  refine wpList_plain hg fun K hK => ?_
  unfold Oper.wp
  have one : ∀ s, mapP P k b G kv st s → ∃ x, s = [(b, x)] := fun s ⟨es, c, hs, _⟩ => ⟨_, hs⟩
  obtain ⟨s, ⟨t1, t2, _, ⟨es, clock, rfl, ⟨s1, s2, s3⟩, hkeys, ⟨e0, he0, hek, heb⟩, hyes, hno⟩, _⟩, hO, _⟩ := (h3.perm hM.del.perm).mem
  have hb : w.heap[b]? = some (.map es clock) := hO.at_ (b, .map es clock) (by simp_all)
  obtain ⟨j, hj⟩ := List.mem_iff_getElem?.1 he0
  have hj' : es[j]? = some e0 := by simpa using hj
  have hidx : es.findIdx? (fun e => ((e.born : Nat) : Int) == ((st : Nat) : Int)) = some j := by
    rw [WideElems.findIdx_arr, ← heb]
    exact WideElems.findIdx_born s2 hj
  have key : ∀ ρ : Operand → Value, ρ x = .map (some b) → ρ y = .int .i64 (st : Nat) → ρ v = u → (execOp ρ o).run P w = .ok .skip (w.putObj b (.map (es.modify j fun e => { e with val := u }) clock)) := by
    intro ρ e1 e2 e3
    unfold execOp
    simp [ho, e1, e2, e3, Instr.entryStore, getObj, setObj, Sem.run, hb, asInt, asIntOf, hidx, Sem.run_bind, Sem.run_pure, Result.andThen, World.putObj]
  rw [key _ (h1.ev hx) (h1.ev hy) (h1.ev hv), Oper.upon_skip, hdst]
  have hget : ∀ m, (es.modify j fun e => { e with val := u }).toList[m]? = if j = m then some { e0 with val := u } else es.toList[m]? := fun m => by
    rw [Array.getElem?_toList, Array.getElem?_modify, Array.getElem?_toList]
    split
    · rename_i e; subst e; rw [hj']; rfl
    · rfl
  have hmem : ∀ e, e ∈ (es.modify j fun e => { e with val := u }).toList → e = { e0 with val := u } ∨ (e ∈ es.toList ∧ e.key ≠ kv) := fun e he => by
    obtain ⟨m, hm⟩ := List.mem_iff_getElem?.1 he
    rw [hget] at hm
    split at hm
    · exact .inl (Option.some.inj hm).symm
    · rename_i hjm
      refine .inr ⟨List.mem_of_getElem? hm, fun hk2 => ?_⟩
      have n1 : (es.toList.map (·.key))[j]? = some kv := by rw [List.getElem?_map, hj]; simp [hek]
      have n2 : (es.toList.map (·.key))[m]? = some kv := by rw [List.getElem?_map, hm]; simp [hk2]
      have l1 := (List.getElem?_eq_some_iff.1 n1)
      have l2 := (List.getElem?_eq_some_iff.1 n2)
      exact hjm ((List.getElem_inj s3).1 (l1.2.trans l2.2.symm))
  have hmapK : (es.modify j fun e => { e with val := u }).toList.map (·.key) = es.toList.map (·.key) := by
    apply List.ext_getElem?
    intro m
    rw [List.getElem?_map, List.getElem?_map, hget]
    split
    · rename_i e; subst e; rw [hj]; rfl
    · rfl
  have hmapB : (es.modify j fun e => { e with val := u }).toList.map (·.born) = es.toList.map (·.born) := by
    apply List.ext_getElem?
    intro m
    rw [List.getElem?_map, List.getElem?_map, hget]
    split
    · rename_i e; subst e; rw [hj]; rfl
    · rfl
  refine hK _ _ (h a _ h1 h2 (h3.setMap (x := .map es clock) hM.del one ⟨_, _, rfl, ⟨?_, by rw [hmapB]; exact s2, by rw [hmapK]; exact s3⟩, ?_, ?_, ?_⟩))
  · intro e he
    rcases hmem e he with rfl | ⟨he, _⟩
    · exact s1 e0 he0
    · exact s1 e he
  · intro e he
    rcases hmem e he with rfl | ⟨he, _⟩
    · exact hkeys e0 he0
    · exact hkeys e he
  · intro e he
    rcases hmem e he with rfl | ⟨he, hn⟩
    · show G.put kv u e0.key = some u
      rw [hek]; exact G.put_eq kv u
    · rw [G.put_ne u hn]; exact hyes e he hn
  · intro x hx
    by_cases hxk : x = kv
    · subst hxk
      have hin : ({ e0 with val := u } : MapEntry) ∈ (es.modify j fun e => { e with val := u }).toList := List.mem_of_getElem? (i := j) (by rw [hget, if_pos rfl])
      exact (hx _ hin hek).elim
    · rw [G.put_ne u hxk]
      refine hno x hxk fun e he hke => ?_
      obtain ⟨m, hm⟩ := List.mem_iff_getElem?.1 he
      have hjm : j ≠ m := fun e1 => by
        subst e1
        rw [hj] at hm
        have := Option.some.inj hm
        subst this
        exact hxk (hke.symm.trans hek)
      have hin : e ∈ (es.modify j fun e => { e with val := u }).toList := List.mem_of_getElem? (i := m) (by rw [hget, if_neg hjm]; exact hm)
      exact hx e hin hke
end Go.G


namespace Go.G
variable {P : Program} {W : World} {n m : Nat} {D : List Deferred} {L : Tm} {M : List Res} {R : List Fact} {Q : Exit → Act → World → Prop} {o : Oper} {F : Fence}
/-- An iterator's value hands out these, one by one; each round goes from one state of a family to one of the next. -/
def YieldsG {α γ : Type} (P : Program) (W : World) (l : Nat) (enc : α → List Value) (xs : List α) (J : γ → Nat → Res) (F : γ → Nat → Fact) (Rf : List Fact) : Prop :=
  ∀ i x, xs[i]? = some x → ∀ g Mi Ri w, St W (J g i :: Mi) (F g i :: (Ri ++ Rf)) w → YieldAt Fence.wide 0 P l (enc x).toArray w fun e w' => e = .returned (.bool true) ∧ ∃ g', St W (J g' (i + 1) :: Mi) (F g' (i + 1) :: (Ri ++ Rf)) w'
def RetSeqG {γ : Type} (W : World) (J : γ → Nat → Res) (F : γ → Nat → Fact) (N : Nat) (R : List Fact) (e : Ending) (w' : World) : Prop := (∃ v, e = .returned v) ∧ ∃ g, St W [J g N] (F g N :: R) w'
structure IsSeqG {α : Type} (P : Program) (g : FuncId) (lb : List Value) (Rs : List Fact) (enc : α → List Value) (xs : List α) : Prop where
  enter : ∀ (ag : Array Value) (w : World), (callFunc g ag).run P w = .ok (.enter g ag) w
  calls : ∀ {γ : Type} (l : Nat) (J : γ → Nat → Res) (F : γ → Nat → Fact) (g0 : γ) (W : World) (Rf : List Fact) (w : World), YieldsG P W l enc xs J F Rf → St W [J g0 0] (F g0 0 :: (Rs ++ Rf)) w → Calls P g (.func (.yield l) #[] #[] :: lb).toArray w (RetSeqG W J F xs.length (Rs ++ Rf))
theorem IsSeqG.intro {α : Type} {g : FuncId} {lb : List Value} {Rs : List Fact} {enc : α → List Value} {xs : List α} {fn : Func} {c : Code} (he : ∀ (ag : Array Value) (w : World), (callFunc g ag).run P w = .ok (.enter g ag) w)
    (hf : P.funcs[g]? = some fn) (hb : fn.body = some c) (hn : fn.ntmps = n) (ha : Nat.ble (lb.length + 1) n = true)
    (h : ∀ {γ : Type} l (J : γ → Nat → Res) (F : γ → Nat → Fact) (g0 : γ) W Rf, YieldsG P W l enc xs J F Rf → Imp W n [] (argsL (.func (.yield l) #[] #[] :: lb) 0) [J g0 0] (F g0 0 :: (Rs ++ Rf)) (c.wp P (bodyPost P fn (RetSeqG W J F xs.length (Rs ++ Rf))))) : IsSeqG P g lb Rs enc xs := by
  refine ⟨he, fun l J F g0 W Rf w hY hw => calls_of_wp hf hb ?_⟩
  rw [hn]
  exact h l J F g0 W Rf hY _ w (FSat.entry (by simpa using Nat.le_of_ble_eq_true ha)) rfl hw
theorem r_retseqG {γ : Type} {fn : Func} {J : γ → Nat → Res} {F : γ → Nat → Fact} {N : Nat} {R0 : List Fact} {v : Value} (g : γ) (i : Nat) (hi : i = N) (hr : Rd P W n L M R fn v) (hM : SelM M [J g i]) (hR : SubR R (F g i :: R0)) : Imp W n [] L M R (bodyPost P fn (RetSeqG W J F N R0) .normal) := by
  subst hi
  exact fun a w h1 h2 h3 => ⟨h2, v, hr a w h1 h3, ⟨v, rfl⟩, g, (h3.sel hM).weak hR⟩
theorem oi_yieldG {ops : Array Oper} {rest : List Oper} {x : Operand} {xs : List Operand} {ts : Array TypeId} {l d : Nat} {vs : List Value} {γ : Type} {M1 : γ → List Res} {R1 : γ → List Fact}
    (ho : o.op = .call { callee := .value x, args := xs.toArray, argTypes := ts }) (hx : ev L x = some (.func (.yield l) #[] #[])) (hxs : evs L xs = some vs) (hg : o.guard = none) (hdst : o.dst = some d) (hd : Nat.blt d n = true)
    (hY : ∀ w, St W M R w → YieldAt Fence.wide 0 P l vs.toArray w fun e w' => e = .returned (.bool true) ∧ ∃ g, St W (M1 g) (R1 g) w')
    (h1 : ∀ g, Imp W n D ((d, .bool true) :: L) (M1 g) (R1 g) (wpListIn Fence.wide 0 P ops Q rest)) : Imp W n D L M R (wpListIn Fence.wide 0 P ops Q (o :: rest)) := by
  intro a w g1 g2 g3
  refine wpListIn_plain hg fun K hK => ⟨fun _ _ => trivial, ?_⟩
  rw [Oper.semAt_eq _ _ _ (fun c e => by rw [e] at ho; cases ho)]
  obtain ⟨fn, tmps, assign, body, hy, hr⟩ := hY w g3
  have hrun : (execOp a.eval o).run P w = .ok (.round l fn tmps assign body) w := by
    unfold execOp
    simp only [ho, resolve, g1.ev hx, Deferred.ofValue, Sem.run_bind, Sem.run_pure, Result.andThen_ok, invoke, List.map_toArray, g1.evs hxs]
    simpa using hy
  rw [hrun]
  refine ⟨fun h => (by cases h), hr.mono ?_⟩
  rintro e w' ⟨rfl, g, h⟩
  show K (a.put o.dst _) w'
  rw [hdst]
  exact hK _ _ (h1 g _ w' (g1.put (by simpa using hd) _) (by rw [put_defers]; exact g2) h)
theorem oi_yieldsG2 {α γ : Type} {ops : Array Oper} {rest : List Oper} {x : Operand} {xs : List Operand} {ts : Array TypeId} {l d i : Nat} {vs : List Value} {enc : α → List Value} {ys : List α} {J : γ → Nat → Res} {F : γ → Nat → Fact} {g : γ} {Ri Rf : List Fact} {M' : List Res} {y : α}
    (hY : YieldsG P W l enc ys J F Rf) (hy : ys[i]? = some y)
    (ho : o.op = .call { callee := .value x, args := xs.toArray, argTypes := ts }) (hx : ev L x = some (.func (.yield l) #[] #[])) (hxs : evs L xs = some vs) (hv : vs = enc y) (hg : o.guard = none) (hdst : o.dst = some d) (hd : Nat.blt d n = true) [hM : DelC M (J g i) M']
    (h1 : ∀ g, Imp W n D ((d, .bool true) :: L) (J g (i + 1) :: M') (F g (i + 1) :: (Ri ++ Rf)) (wpListIn Fence.wide 0 P ops Q rest)) : Imp W n D L M (F g i :: (Ri ++ Rf)) (wpListIn Fence.wide 0 P ops Q (o :: rest)) := by
  subst hv
  exact oi_yieldG (M1 := fun g => J g (i + 1) :: M') (R1 := fun g => F g (i + 1) :: (Ri ++ Rf)) ho hx hxs hg hdst hd (fun w h => hY i y hy g M' Ri w (h.perm hM.del.perm)) h1
/-- How a round's body may be left. -/
def RoundG {γ : Type} (W : World) (J : γ → Nat → Res) (F : γ → Nat → Fact) (i : Nat) (M : List Res) (R : List Fact) : Exit → Act → World → Prop
  | .normal, _, w => ∃ g, St W (J g i :: M) (F g i :: R) w
  | _, _, _ => False
theorem r_roundG2 {γ : Type} {r1 r2 : γ → Nat → Res} {F : γ → Nat → Fact} {i : Nat} {M0 : List Res} {R0 : List Fact} (g : γ) (hM : SelM M (r1 g i :: r2 g i :: M0)) (hR : SubR R (F g i :: R0)) : Imp W n D L M R (RoundG W (fun g i => exR fun (_ : Unit) => [r1 g i, r2 g i]) F i M0 R0 .normal) :=
  fun _ _ _ _ h3 => ⟨g, St.pk () ((h3.sel hM).weak hR)⟩
theorem r_rangeG {α γ : Type} {g : Operand} {ps : List Tmp} {assign body : Code} {gf : FuncId} {lb : List Value} {enc : α → List Value} {xs : List α} {Rs : List Fact} {M0 : List Res} {M1 : List Res}
    (hs : IsSeqG P gf lb Rs enc xs) (hg : ev L g = some (.func (.func gf) #[] lb.toArray)) (hR : SubR R Rs) (hps : ∀ x, (enc x).length = ps.length) (hpn : ps.all (fun p => Nat.blt p n) = true)
    (J : γ → Nat → Res) (F : γ → Nat → Fact) (g0 : γ) (hM : SelM M M1) (h0 : ∀ w, St W M1 R w → St W (J g0 0 :: M0) (F g0 0 :: R) w)
    (hround : ∀ l i x, xs[i]? = some x → ∀ gh Mi Ri rdy bsy, Beg P l rdy bsy → Imp W n [] (putAll ps (enc x) L) (J gh i :: rdy :: Mi) (F gh i :: (Ri ++ R))
      (assign.wpIn (Fence.wide.inRound l) 0 P (Exit.then (fun a w => ∃ w₂, (Instr.beginRound l).run P w = .ok () w₂ ∧ body.wpIn (Fence.wide.inRound l) 0 P (RoundG W J F (i + 1) (bsy :: Mi) (Ri ++ R)) a w₂) (fun _ _ _ => False))))
    (hdone : ∀ gh db, Imp W n (mark db :: D) L (J gh xs.length :: bl db (.deferred (some [])) :: M0) (F gh xs.length :: R) (Q .normal)) : Imp W n D L M R ((Code.rangeFunc g ps.toArray assign body).wp P Q) := by
  intro a w h1 h2 h3
  refine (wpIn_wide (n := 0)).1 (wpIn_rangeFunc fun fn _ => ?_)
  have h4 := h0 w (h3.sel hM)
  obtain ⟨rec, hrec⟩ : ∃ rec : LoopState → Option Code → Loop, rec = fun st pe => { state := st, pending := pe, fn, tmps := a.tmps, params := ps.toArray, assign, body, defers := w.heap.size } := ⟨_, rfl⟩
  have h5 := (h4.push (.deferred (some []))).push (.loop (rec .ready none))
  have hsz : (w.alloc (.deferred (some []))).heap.size = w.heap.size + 1 := World.size_alloc _ _
  rw [hsz] at h5
  obtain ⟨W1, hW1⟩ : ∃ W1, (w.alloc (.deferred (some []))).alloc (.loop (rec .ready none)) = W1 := ⟨_, rfl⟩
  rw [hW1] at h5
  refine ⟨w.heap.size + 1, [mark w.heap.size], W1, { target := .fn (.func gf) lb.toArray, args := #[.func (.yield (w.heap.size + 1)) #[] #[]] }, W1, gf,
    #[.func (.yield (w.heap.size + 1)) #[] #[]] ++ lb.toArray, W1, ?_, ?_, fun _ _ => trivial, ?_, (fun h => by cases h), ?_⟩
  · rw [← hW1, hrec]; exact run_enterLoop_outer _ _ _ _ _
  · simp only [resolve, h1.ev hg]
    simp [go_sem]
  · simp [invoke, hs.enter]
  · refine callsIn_wide.2 ?_
    have hbeg : Beg P (w.heap.size + 1) (bl (w.heap.size + 1) (.loop (rec .ready none))) (bl (w.heap.size + 1) (.loop { rec .ready none with state := .busy })) := by
      refine ⟨fun W M M' R w' hw hd => ?_⟩
      have hl := (hw.perm hd.perm).bl (b := w.heap.size + 1) (o := .loop (rec .ready none)) (by simp)
      exact ⟨_, run_beginRound hl (by rw [hrec]), (hw.perm hd.perm).putBl _ Upd.here⟩
    have := hs.calls (w.heap.size + 1)
      (fun gh i => exR fun (_ : Unit) => J gh i :: bl (w.heap.size + 1) (.loop (rec .ready none)) :: bl w.heap.size (.deferred (some [])) :: M0)
      (fun gh i => F gh i) g0
      W R W1 ?_ ?_
    · rw [show #[Value.func (.yield (w.heap.size + 1)) #[] #[]] ++ lb.toArray = (Value.func (.yield (w.heap.size + 1)) #[] #[] :: lb).toArray from by simp]
      refine this.mono ?_
      rintro e w2 ⟨⟨v, rfl⟩, gh, h⟩
      obtain ⟨_, h⟩ := h.unpk
      have h' := h.weak (R' := F gh xs.length :: R) (fun φ hφ => by
        rcases List.mem_cons.1 hφ with rfl | hφ
        · exact List.mem_cons_self ..
        · exact List.mem_cons_of_mem _ (List.mem_append_right _ hφ))
      have hl := h'.bl (b := w.heap.size + 1) (o := .loop (rec .ready none)) (by simp)
      refine ⟨none, _, by have := run_endLoop (P := P) hl (by rw [hrec]; simp); rw [hrec] at this; exact this, ?_⟩
      have h6 := h'.putBl (l := w.heap.size + 1) (x := .loop (rec .ready none)) (.loop { rec .ready none with state := .exhausted }) (Upd.there Upd.here)
      refine hdone gh w.heap.size { a with defers := [mark w.heap.size] ++ a.defers } _ ⟨h1.size, h1.vals⟩ (by rw [h2]; rfl) ?_
      rw [hrec] at h6
      exact ((h6.perm (List.Perm.swap _ _ _)).drop).weak (fun _ h => h) |>.perm (by simp)
    · intro i x hx gh Mi Ri w1 hw1
      obtain ⟨_, h6⟩ := hw1.unpk
      simp only [List.cons_append] at h6
      have hl := h6.bl (b := w.heap.size + 1) (o := .loop (rec .ready none)) (by simp)
      have hz : (ps.toArray.zip (enc x).toArray).foldl (fun t (p, v) => t.setIfInBounds p v) a.tmps = (ps.zip (enc x)).foldl (fun t (p, v) => t.setIfInBounds p v) a.tmps := by simp
      refine ⟨fn, (ps.zip (enc x)).foldl (fun t (p, v) => t.setIfInBounds p v) a.tmps, assign, body, ?_, roundIn_of_wpIn trivial ?_⟩
      · have := run_yield (P := P) (args := (enc x).toArray) hl (by rw [hrec]; simpa using hps x)
        rw [hrec] at this
        rw [← hz]
        exact this
      · have hF := FSat.putAll (t := a.tmps) ps (enc x) hpn ⟨h1.size, h1.vals⟩
        have hrd := hround (w.heap.size + 1) i x hx gh (bl w.heap.size (.deferred (some [])) :: (M0 ++ Mi)) Ri _ _ hbeg _ w1 hF rfl h6
        refine Go.wpIn_mono hrd ?_
        rintro e a2 w2 h7
        cases e with
        | normal =>
          obtain ⟨w3, hb3, h8⟩ := h7
          refine ⟨w3, hb3, Go.wpIn_mono h8 ?_⟩
          rintro e a4 w4 h9
          have fin : ∀ (X : Res) (Y : Fact) (jump : Option Code), St W (X :: bl (w.heap.size + 1) (.loop { rec .ready none with state := .busy }) :: bl w.heap.size (.deferred (some [])) :: (M0 ++ Mi)) (Y :: (Ri ++ R)) w4 →
              ∃ w5, (Instr.endRound (w.heap.size + 1) jump).run P w4 = .ok (.bool jump.isNone) w5 ∧ St W (X :: bl (w.heap.size + 1) (.loop (rec (if jump.isNone then .ready else .done) jump)) :: bl w.heap.size (.deferred (some [])) :: (M0 ++ Mi)) (Y :: (Ri ++ R)) w5 := by
            intro X Y jump h10
            have hl3 := h10.bl (b := w.heap.size + 1) (o := .loop { rec .ready none with state := .busy }) (by simp)
            refine ⟨_, run_endRound jump hl3, ?_⟩
            have := h10.putBl (l := w.heap.size + 1) (x := .loop { rec .ready none with state := .busy }) (.loop (rec (if jump.isNone then .ready else .done) jump)) (Upd.there Upd.here)
            rw [hrec] at this ⊢
            exact this
          cases e with
          | normal =>
            obtain ⟨gh', h9⟩ := h9
            obtain ⟨w5, hr5, h10⟩ := fin _ _ none h9
            exact ⟨_, w5, hr5, rfl, gh', St.pk () (by simpa using h10)⟩
          | ret => exact h9.elim
          | exit id => exact h9.elim
          | goto t => exact h9.elim
          | panic c => exact h9.elim
          | outgrown => exact h9.elim
        | ret => exact h7.elim
        | exit id => exact h7.elim
        | goto t => exact h7.elim
        | panic c => exact h7.elim
        | outgrown => exact h7.elim
    · refine St.pk () ?_
      have h7 : St W (J g0 0 :: bl (w.heap.size + 1) (.loop (rec .ready none)) :: bl w.heap.size (.deferred (some [])) :: (M0 ++ [])) (F g0 0 :: R) W1 := h5.perm (by
        simp only [List.append_nil]
        exact ((List.Perm.swap _ _ _).cons _).trans (List.Perm.swap _ _ _))
      refine h7.weak fun φ hφ => ?_
      rcases List.mem_cons.1 hφ with rfl | hφ
      · exact List.mem_cons_self ..
      · rcases List.mem_append.1 hφ with hφ | hφ
        · exact List.mem_cons_of_mem _ (hR φ hφ)
        · exact List.mem_cons_of_mem _ hφ
theorem FnS.introM {k : FuncId} {args : List Value} {M0 : List Res} {R0 : List Fact} {Post : Ending → List Res → List Fact → Prop} {fn : Func} {c : Code} (he : ∀ (ag : Array Value) (w : World), (callFunc k ag).run P w = .ok (.enter k ag) w)
    (hf : P.funcs[k]? = some fn) (hb : fn.body = some c) (hn : fn.ntmps = n) (ha : Nat.ble args.length n = true)
    (h : ∀ W Mf Rf, Imp W n [] (argsL args 0) (M0 ++ Mf) (R0 ++ Rf) (c.wp P (bodyPostM Fence.wide 0 P fn (RetE W Mf (R0 ++ Rf) Post)))) : FnS P k args M0 R0 Post := by
  refine ⟨he, fun W Mf Rf w hw => (callsIn_wide (n := 0)).1 (callsIn_of_wp_marks hf hb trivial (wpIn_wide.2 ?_))⟩
  rw [hn]
  exact h W Mf Rf _ w (FSat.entry (Nat.le_of_ble_eq_true ha)) rfl hw
theorem FnS.introM1 {k : FuncId} {args : List Value} {r : Res} {R0 : List Fact} {Post : Ending → List Res → List Fact → Prop} {fn : Func} {c : Code} (he : ∀ (ag : Array Value) (w : World), (callFunc k ag).run P w = .ok (.enter k ag) w)
    (hf : P.funcs[k]? = some fn) (hb : fn.body = some c) (hn : fn.ntmps = n) (ha : Nat.ble args.length n = true)
    (h : ∀ W Mf Rf, Imp W n [] (argsL args 0) (r :: Mf) (R0 ++ Rf) (c.wp P (bodyPostM Fence.wide 0 P fn (RetE W Mf (R0 ++ Rf) Post)))) : FnS P k args [r] R0 Post := FnS.introM he hf hb hn ha h
end Go.G


namespace Go.Proofs.YtpfgiednfjfdmaaDoor
open Go.G Debt10
set_option maxRecDepth 1000000
attribute [local irreducible] G.ParO G.Fin
theorem v_subW {P : Program} {W : World} {n : Nat} {L : Tm} {M : List Res} {R : List Fact} {o : Oper} {t u : TypeId} {x y : Operand} {a b : Int} (ho : o.op = .binOp .sub t x y u) (hx : ev L x = some (.int .i64 a)) (hy : ev L y = some (.int .i64 b)) : OpQ P W n L M R o (.int .i64 (IntKind.i64.wrap (a - b))) :=
  OpQ.of_value fun f w h1 _ => by simp [execOp, ho, h1.ev hx, h1.ev hy, eqGuard, binOp, Op.intArith]
/-- Whether a number is that of a person, as the program asks it. -/
abbrev isW (D : Debt) (n : Int) : Bool := decide (0 ≤ n ∧ n ≤ IntKind.i64.wrap (D.people - 1))
abbrev isDy (n : Int) : Bool := decide (0 ≤ n ∧ n ≤ 30)
set_option maxHeartbeats 4000000 in
theorem within_v (a b c : Int) : FnV Tryd.prog 58 [i64 a, i64 b, i64 c] [] (.bool (decide (b ≤ a ∧ a ≤ c))) := by
 refine FnV.intro Tryd.call58 Tryd.func58 rfl Tryd.ntmps58 rfl ?_
 intro W M Rf
 refine r_seq ?_
 refine r_region ?_
 refine o_q _ rfl rfl rfl (v_assign rfl rfl) ?_
 refine o_nil ?_
 with_reducible refine r_then ?_
 refine r_seq ?_
 refine r_region ?_
 refine o_q _ rfl rfl rfl (v_move rfl rfl) ?_
 refine o_q _ rfl rfl rfl (v_move rfl rfl) ?_
 refine o_test rfl rfl rfl (v_leq rfl rfl rfl) (fun h9 => ?_) (fun h9 => ?_)
 all_goals
  refine o_q _ rfl rfl rfl (v_move rfl rfl) ?_
  first | refine o_gn rfl rfl rfl rfl ?_ | refine o_g _ rfl rfl rfl rfl (v_move rfl rfl) ?_
  first | refine o_gn rfl rfl rfl rfl ?_ | refine o_g _ rfl rfl rfl rfl (v_move rfl rfl) ?_
  first | refine o_gn rfl rfl rfl rfl ?_ | refine o_gtest rfl rfl rfl rfl (v_leq rfl rfl rfl) (fun h13 => ?_) (fun h13 => ?_)
  all_goals
   first | refine o_q _ rfl rfl rfl (v_pick_t rfl rfl rfl) ?_ | refine o_q _ rfl rfl rfl (v_pick_f rfl rfl rfl) ?_
   refine o_q _ rfl rfl rfl (v_assign rfl rfl) ?_
   refine o_nil ?_
   with_reducible refine r_then ?_
   refine r_ret ?_
   first | exact r_retv2 (Rd.tmp rfl rfl) (congrArg Value.bool (decide_eq_true (by omega)).symm) SelMC.sel SubRC.sub | exact r_retv2 (Rd.tmp rfl rfl) (congrArg Value.bool (decide_eq_false (by omega)).symm) SelMC.sel SubRC.sub
set_option maxHeartbeats 4000000 in
theorem ask_t (e : Int) : FnV Tryd.prog 70 [.bool true, i64 e] [] (.tuple #[]) := by
 refine FnV.intro Tryd.call70 Tryd.func70 rfl Tryd.ntmps70 rfl ?_
 intro W M Rf
 refine r_seq ?_
 refine r_region ?_
 refine o_q _ rfl rfl rfl (v_move rfl rfl) ?_
 refine o_q _ rfl rfl rfl (v_not rfl rfl) ?_
 refine o_nil ?_
 with_reducible refine r_then ?_
 refine r_cond rfl (fun hc5 => ?_) (fun hc5 => ?_)
 ·
  (exfalso; revert hc5; decide)
 ·
  refine r_skip ?_
  exact r_endv (Rd.none rfl) SelMC.sel SubRC.sub
set_option maxHeartbeats 4000000 in
theorem ask_f (e : Int) : FnX Tryd.prog 70 [.bool false, i64 e] [] (.iface 103 (i64 e)) := by
 refine FnX.intro Tryd.call70 Tryd.func70 rfl Tryd.ntmps70 rfl ?_
 intro W M Rf
 refine r_seq ?_
 refine r_region ?_
 refine o_q _ rfl rfl rfl (v_move rfl rfl) ?_
 refine o_q _ rfl rfl rfl (v_not rfl rfl) ?_
 refine o_nil ?_
 with_reducible refine r_then ?_
 refine r_cond rfl (fun hc5 => ?_) (fun hc5 => ?_)
 ·
  refine r_region ?_
  refine o_q _ rfl rfl rfl (v_move rfl rfl) ?_
  refine o_q _ rfl rfl rfl (v_makeIface rfl Tryd.underlying103 rfl rfl) ?_
  refine o_panic rfl rfl rfl ?_
  exact r_retx SelMC.sel SubRC.sub
 ·
  (exfalso; revert hc5; decide)
set_option maxHeartbeats 4000000 in
theorem answer_ans : AnsP Tryd.prog 43 .i64 103 30 := by
  refine ⟨Tryd.call43, fun W M R w b hw => ?_, fun W M R w b x y hw => ?_⟩
  · refine ans_intro (args := [pt b 0]) (u' := .returning) (v := .nilIface) Tryd.func43 rfl Tryd.ntmps43 rfl rfl rfl rfl rfl rfl rfl rfl rfl (fun c₀ cs h => .inr ⟨rec_ret h, rfl, rfl⟩) hw ?_
    intro c₀ cs
    refine r_seq ?_
    refine r_region ?_
    refine o_q _ rfl rfl rfl (v_move rfl rfl) ?_
    refine o_q _ rfl rfl rfl (v_ifnil rfl Tryd.underlying20 rfl) ?_
    refine o_nil ?_
    with_reducible refine r_then ?_
    refine r_cond rfl (fun hc7 => ?_) (fun hc7 => ?_)
    ·
      (exfalso; revert hc7; decide)
    ·
      refine r_skip ?_
      exact r_ends (Rd.none rfl) (fun w' h => ⟨⟨_, rfl⟩, rfl, h⟩)
  · refine ans_intro (args := [pt b 0]) (u' := .panicking [{ v := .iface 103 (i64 y), recovered := true }]) (v := .iface 103 (i64 y)) Tryd.func43 rfl Tryd.ntmps43 rfl rfl rfl rfl rfl rfl rfl rfl rfl (fun c₀ cs h => .inl (rec_pan h)) hw ?_
    intro c₀ cs
    refine r_seq ?_
    refine r_region ?_
    refine o_q _ rfl rfl rfl (v_move rfl rfl) ?_
    refine o_q _ rfl rfl rfl (v_ifnn rfl Tryd.underlying20 rfl) ?_
    refine o_nil ?_
    with_reducible refine r_then ?_
    refine r_cond rfl (fun hc7 => ?_) (fun hc7 => ?_)
    ·
      refine r_seq ?_
      refine r_region ?_
      refine o_q _ rfl rfl rfl (v_move rfl rfl) ?_
      refine o_q _ rfl rfl rfl (v_assertOk rfl Tryd.underlying103 rfl rfl) ?_
      refine o_q _ rfl rfl rfl (v_move rfl rfl) ?_
      refine o_q _ rfl rfl rfl (v_extract rfl rfl rfl) ?_
      refine o_q _ rfl rfl rfl (v_extract rfl rfl rfl) ?_
      refine o_q _ rfl rfl rfl (v_assign rfl rfl) ?_
      refine o_q _ rfl rfl rfl (v_assign rfl rfl) ?_
      refine o_nil ?_
      with_reducible refine r_then ?_
      refine r_seq ?_
      refine r_seq ?_
      refine r_region ?_
      refine o_q _ rfl rfl rfl (v_move rfl rfl) ?_
      refine o_q _ rfl rfl rfl (v_not rfl rfl) ?_
      refine o_nil ?_
      with_reducible refine r_then ?_
      refine r_cond rfl (fun hc14 => ?_) (fun hc14 => ?_)
      ·
        (exfalso; revert hc14; decide)
      ·
        refine r_skip ?_
        with_reducible refine r_then ?_
        refine r_region ?_
        refine o_q _ rfl rfl rfl (v_move rfl rfl) ?_
        refine o_q _ rfl rfl rfl (v_move rfl rfl) ?_
        refine o_q _ rfl rfl rfl (v_nilCheck rfl rfl) ?_
        refine o_st rfl inf30 rfl rfl rfl rfl rfl rfl rfl rfl ?_
        refine o_nil ?_
        exact r_ends (Rd.none rfl) (fun w' h => ⟨⟨_, rfl⟩, rfl, h⟩)
    ·
      (exfalso; revert hc7; decide)
variable (D : Debt) (uo po : Option Addr) (uc pc : Nat)
set_option maxHeartbeats 4000000 in
theorem isWho_v (n : Int) : FnV Tryd.prog 45 [valD D uo po uc pc, i64 n] [] (.bool (isW D n)) := by
 refine FnV.intro Tryd.call45 Tryd.func45 rfl Tryd.ntmps45 rfl ?_
 intro W M Rf
 refine r_seq ?_
 refine r_region ?_
 refine o_boxA rfl rfl rfl rfl rfl (fun b2 => ?_)
 refine o_q _ rfl rfl rfl (v_assign rfl rfl) ?_
 refine o_nil ?_
 with_reducible refine r_then ?_
 refine r_seq ?_
 refine r_region ?_
 refine o_q _ rfl rfl rfl (v_move rfl rfl) ?_
 refine o_q _ rfl rfl rfl (v_fieldAddr rfl Tryd.underlying25 inf3 rfl rfl rfl rfl) ?_
 refine o_q _ rfl rfl rfl (v_ld1 rfl Tryd.underlying3 rfl rfl rfl) ?_
 refine o_q _ rfl rfl rfl (v_subW rfl rfl rfl) ?_
 refine o_q _ rfl rfl rfl (OpQ.fn (within_v _ _ _) rfl rfl SubRC.sub) ?_
 refine o_q _ rfl rfl rfl (v_assign rfl rfl) ?_
 refine o_nil ?_
 with_reducible refine r_then ?_
 refine r_ret ?_
 exact r_retv2 (Rd.tmp rfl rfl) rfl SelMC.sel SubRC.sub
set_option maxHeartbeats 4000000 in
theorem isDay_v (n : Int) : FnV Tryd.prog 46 [i64 n] [] (.bool (isDy n)) := by
 refine FnV.intro Tryd.call46 Tryd.func46 rfl Tryd.ntmps46 rfl ?_
 intro W M Rf
 refine r_seq ?_
 refine r_region ?_
 refine o_q _ rfl rfl rfl (v_assign rfl rfl) ?_
 refine o_nil ?_
 with_reducible refine r_then ?_
 refine r_seq ?_
 refine r_region ?_
 refine o_q _ rfl rfl rfl (v_move rfl rfl) ?_
 refine o_q _ rfl rfl rfl (OpQ.fn (within_v _ _ _) rfl rfl SubRC.sub) ?_
 refine o_q _ rfl rfl rfl (v_assign rfl rfl) ?_
 refine o_nil ?_
 with_reducible refine r_then ?_
 refine r_ret ?_
 exact r_retv2 (Rd.tmp rfl rfl) rfl SelMC.sel SubRC.sub
set_option maxHeartbeats 4000000 in
theorem isSods_v (lo hi : Int) : FnV Tryd.prog 71 [.agg #[i64 lo, i64 hi]] [] (.bool (decide (SodsOk ⟨lo, hi⟩))) := by
 refine FnV.intro Tryd.call71 Tryd.func71 rfl Tryd.ntmps71 rfl ?_
 intro W M Rf
 refine r_seq ?_
 refine r_region ?_
 refine o_boxA rfl rfl rfl rfl rfl (fun b1 => ?_)
 refine o_q _ rfl rfl rfl (v_assign rfl rfl) ?_
 refine o_nil ?_
 with_reducible refine r_then ?_
 refine r_seq ?_
 refine r_region ?_
 refine o_q _ rfl rfl rfl (v_fieldAddr rfl Tryd.underlying29 inf3 rfl rfl rfl rfl) ?_
 refine o_q _ rfl rfl rfl (v_ld1 rfl Tryd.underlying3 rfl rfl rfl) ?_
 refine o_test rfl rfl rfl (v_leq rfl rfl rfl) (fun h5 => ?_) (fun h5 => ?_)
 all_goals
  refine o_q _ rfl rfl rfl (v_move rfl rfl) ?_
  first | refine o_gn rfl rfl rfl rfl ?_ | refine o_g _ rfl rfl rfl rfl (v_fieldAddr rfl Tryd.underlying29 inf3 rfl rfl rfl rfl) ?_
  first | refine o_gn rfl rfl rfl rfl ?_ | refine o_g _ rfl rfl rfl rfl (v_ld1 rfl Tryd.underlying3 rfl rfl rfl) ?_
  first | refine o_gn rfl rfl rfl rfl ?_ | refine o_g _ rfl rfl rfl rfl (v_fieldAddr rfl Tryd.underlying29 inf3 rfl rfl rfl rfl) ?_
  first | refine o_gn rfl rfl rfl rfl ?_ | refine o_g _ rfl rfl rfl rfl (v_ld1 rfl Tryd.underlying3 rfl rfl rfl) ?_
  first | refine o_gn rfl rfl rfl rfl ?_ | refine o_gtest rfl rfl rfl rfl (v_leq rfl rfl rfl) (fun h11 => ?_) (fun h11 => ?_)
  all_goals
   first | refine o_q _ rfl rfl rfl (v_pick_t rfl rfl rfl) ?_ | refine o_q _ rfl rfl rfl (v_pick_f rfl rfl rfl) ?_
   refine o_q _ rfl rfl rfl (v_move rfl rfl) ?_
   first | refine o_gn rfl rfl rfl rfl ?_ | refine o_g _ rfl rfl rfl rfl (v_fieldAddr rfl Tryd.underlying29 inf3 rfl rfl rfl rfl) ?_
   first | refine o_gn rfl rfl rfl rfl ?_ | refine o_g _ rfl rfl rfl rfl (v_ld1 rfl Tryd.underlying3 rfl rfl rfl) ?_
   first | refine o_gn rfl rfl rfl rfl ?_ | refine o_gtest rfl rfl rfl rfl (v_leq rfl rfl rfl) (fun h16 => ?_) (fun h16 => ?_)
   all_goals
    first | refine o_q _ rfl rfl rfl (v_pick_t rfl rfl rfl) ?_ | refine o_q _ rfl rfl rfl (v_pick_f rfl rfl rfl) ?_
    refine o_q _ rfl rfl rfl (v_move rfl rfl) ?_
    first | refine o_gn rfl rfl rfl rfl ?_ | refine o_g _ rfl rfl rfl rfl (v_fieldAddr rfl Tryd.underlying29 inf3 rfl rfl rfl rfl) ?_
    first | refine o_gn rfl rfl rfl rfl ?_ | refine o_g _ rfl rfl rfl rfl (v_ld1 rfl Tryd.underlying3 rfl rfl rfl) ?_
    first | refine o_gn rfl rfl rfl rfl ?_ | refine o_g _ rfl rfl rfl rfl (v_fieldAddr rfl Tryd.underlying29 inf3 rfl rfl rfl rfl) ?_
    first | refine o_gn rfl rfl rfl rfl ?_ | refine o_g _ rfl rfl rfl rfl (v_ld1 rfl Tryd.underlying3 rfl rfl rfl) ?_
    first | refine o_gn rfl rfl rfl rfl ?_ | refine o_g _ rfl rfl rfl rfl (v_sub rfl rfl rfl (by omega)) ?_
    first | refine o_gn rfl rfl rfl rfl ?_ | refine o_gtest rfl rfl rfl rfl (v_leq rfl rfl rfl) (fun h24 => ?_) (fun h24 => ?_)
    all_goals
     first | refine o_q _ rfl rfl rfl (v_pick_t rfl rfl rfl) ?_ | refine o_q _ rfl rfl rfl (v_pick_f rfl rfl rfl) ?_
     refine o_q _ rfl rfl rfl (v_assign rfl rfl) ?_
     refine o_nil ?_
     with_reducible refine r_then ?_
     refine r_ret ?_
     first | exact r_retv2 (Rd.tmp rfl rfl) (congrArg Value.bool (decide_eq_true (by (show 1 ≤ lo ∧ lo ≤ hi ∧ hi ≤ 500 ∧ hi - lo ≤ 20); omega)).symm) SelMC.sel SubRC.sub | exact r_retv2 (Rd.tmp rfl rfl) (congrArg Value.bool (decide_eq_false (by (show ¬ (1 ≤ lo ∧ lo ≤ hi ∧ hi ≤ 500 ∧ hi - lo ≤ 20)); omega)).symm) SelMC.sel SubRC.sub
def endT (e : Nat) : TypeId := if e = 0 then 182 else 184
def dueF (e : Nat) : FuncId := if e = 0 then 136 else 138
def paidF (e : Nat) : FuncId := if e = 0 then 137 else 139
@[reducible] def endV (e : Nat) : Value := .iface (endT e) (.agg #[])
set_option maxHeartbeats 4000000 in
theorem due0 (s : Debt10.Span) : FnV Tryd.prog 136 [.agg ([] : List Value).toArray, vS s] [] (i64 s.lo) := by
 refine FnV.intro Tryd.call136 Tryd.func136 rfl Tryd.ntmps136 rfl ?_
 intro W M Rf
 refine r_seq ?_
 refine r_region ?_
 refine o_boxA rfl rfl rfl rfl rfl (fun b2 => ?_)
 refine o_boxA rfl rfl rfl rfl rfl (fun b3 => ?_)
 refine o_q _ rfl rfl rfl (v_assign rfl rfl) ?_
 refine o_nil ?_
 with_reducible refine r_then ?_
 refine r_seq ?_
 refine r_region ?_
 refine o_q _ rfl rfl rfl (v_fieldAddr rfl Tryd.underlying29 inf3 rfl rfl rfl rfl) ?_
 refine o_q _ rfl rfl rfl (v_ld1 rfl Tryd.underlying3 rfl rfl rfl) ?_
 refine o_q _ rfl rfl rfl (v_assign rfl rfl) ?_
 refine o_nil ?_
 with_reducible refine r_then ?_
 refine r_ret ?_
 exact r_retv2 (Rd.tmp rfl rfl) rfl SelMC.sel SubRC.sub
set_option maxHeartbeats 4000000 in
theorem paid0 (s : Debt10.Span) : FnV Tryd.prog 137 [.agg ([] : List Value).toArray, vS s] [] (i64 s.hi) := by
 refine FnV.intro Tryd.call137 Tryd.func137 rfl Tryd.ntmps137 rfl ?_
 intro W M Rf
 refine r_seq ?_
 refine r_region ?_
 refine o_boxA rfl rfl rfl rfl rfl (fun b2 => ?_)
 refine o_boxA rfl rfl rfl rfl rfl (fun b3 => ?_)
 refine o_q _ rfl rfl rfl (v_assign rfl rfl) ?_
 refine o_nil ?_
 with_reducible refine r_then ?_
 refine r_seq ?_
 refine r_region ?_
 refine o_q _ rfl rfl rfl (v_fieldAddr rfl Tryd.underlying29 inf3 rfl rfl rfl rfl) ?_
 refine o_q _ rfl rfl rfl (v_ld1 rfl Tryd.underlying3 rfl rfl rfl) ?_
 refine o_q _ rfl rfl rfl (v_assign rfl rfl) ?_
 refine o_nil ?_
 with_reducible refine r_then ?_
 refine r_ret ?_
 exact r_retv2 (Rd.tmp rfl rfl) rfl SelMC.sel SubRC.sub
set_option maxHeartbeats 4000000 in
theorem due1 (s : Debt10.Span) : FnV Tryd.prog 138 [.agg ([] : List Value).toArray, vS s] [] (i64 s.hi) := by
 refine FnV.intro Tryd.call138 Tryd.func138 rfl Tryd.ntmps138 rfl ?_
 intro W M Rf
 refine r_seq ?_
 refine r_region ?_
 refine o_boxA rfl rfl rfl rfl rfl (fun b2 => ?_)
 refine o_boxA rfl rfl rfl rfl rfl (fun b3 => ?_)
 refine o_q _ rfl rfl rfl (v_assign rfl rfl) ?_
 refine o_nil ?_
 with_reducible refine r_then ?_
 refine r_seq ?_
 refine r_region ?_
 refine o_q _ rfl rfl rfl (v_fieldAddr0 rfl Tryd.underlying184 inf182 rfl rfl rfl rfl rfl (by kernel_rfl) rfl) ?_
 refine o_q _ rfl rfl rfl (v_ldW rfl Tryd.underlying182 rfl inf182 rfl rfl) ?_
 refine o_q _ rfl rfl rfl (v_ldW rfl Tryd.underlying29 rfl inf29 rfl rfl) ?_
 refine o_q _ rfl rfl rfl (OpQ.fn (paid0 s) rfl rfl SubRC.sub) ?_
 refine o_q _ rfl rfl rfl (v_assign rfl rfl) ?_
 refine o_nil ?_
 with_reducible refine r_then ?_
 refine r_ret ?_
 exact r_retv2 (Rd.tmp rfl rfl) rfl SelMC.sel SubRC.sub
set_option maxHeartbeats 4000000 in
theorem paid1 (s : Debt10.Span) : FnV Tryd.prog 139 [.agg ([] : List Value).toArray, vS s] [] (i64 s.lo) := by
 refine FnV.intro Tryd.call139 Tryd.func139 rfl Tryd.ntmps139 rfl ?_
 intro W M Rf
 refine r_seq ?_
 refine r_region ?_
 refine o_boxA rfl rfl rfl rfl rfl (fun b2 => ?_)
 refine o_boxA rfl rfl rfl rfl rfl (fun b3 => ?_)
 refine o_q _ rfl rfl rfl (v_assign rfl rfl) ?_
 refine o_nil ?_
 with_reducible refine r_then ?_
 refine r_seq ?_
 refine r_region ?_
 refine o_q _ rfl rfl rfl (v_fieldAddr0 rfl Tryd.underlying184 inf182 rfl rfl rfl rfl rfl (by kernel_rfl) rfl) ?_
 refine o_q _ rfl rfl rfl (v_ldW rfl Tryd.underlying182 rfl inf182 rfl rfl) ?_
 refine o_q _ rfl rfl rfl (v_fieldAddr rfl Tryd.underlying29 inf3 rfl rfl rfl rfl) ?_
 refine o_q _ rfl rfl rfl (v_ld1 rfl Tryd.underlying3 rfl rfl rfl) ?_
 refine o_q _ rfl rfl rfl (v_bSp (us := [i64 s.lo, i64 0]) rfl Tryd.underlying29 inf29 plt29 rfl rfl rfl (by repeat (first | exact trivial | refine ⟨rfl, ?_⟩)) (by show 1 ≤ 2; decide) rfl) ?_
 refine o_q _ rfl rfl rfl (OpQ.fn (due0 ⟨s.lo, 0⟩) rfl rfl SubRC.sub) ?_
 refine o_q _ rfl rfl rfl (v_assign rfl rfl) ?_
 refine o_nil ?_
 with_reducible refine r_then ?_
 refine r_ret ?_
 exact r_retv2 (Rd.tmp rfl rfl) rfl SelMC.sel SubRC.sub
theorem hm182d : HasM Tryd.prog 182 "bogworks/debt.due" 136 := HasM.mk' inf182 (by kernel_rfl) Tryd.underlying182 rfl
theorem hm182p : HasM Tryd.prog 182 "bogworks/debt.paid" 137 := HasM.mk' inf182 (by kernel_rfl) Tryd.underlying182 rfl
theorem hm184d : HasM Tryd.prog 184 "bogworks/debt.due" 138 := HasM.mk' inf184 (by kernel_rfl) Tryd.underlying184 rfl
theorem hm184p : HasM Tryd.prog 184 "bogworks/debt.paid" 139 := HasM.mk' inf184 (by kernel_rfl) Tryd.underlying184 rfl
theorem dueM (e : Nat) : HasM Tryd.prog (endT e) "bogworks/debt.due" (dueF e) := by
  unfold endT dueF
  split
  · exact hm182d
  · exact hm184d
theorem paidM (e : Nat) : HasM Tryd.prog (endT e) "bogworks/debt.paid" (paidF e) := by
  unfold endT paidF
  split
  · exact hm182p
  · exact hm184p
theorem due_v (e : Nat) (s : Debt10.Span) : FnV Tryd.prog (dueF e) [.agg #[], vS s] [] (i64 (amE e s)) := by
  unfold dueF amE
  split
  · exact due0 s
  · exact due1 s
theorem paid_v (e : Nat) (s : Debt10.Span) : FnV Tryd.prog (paidF e) [.agg #[], vS s] [] (i64 (paE e s)) := by
  unfold paidF paE
  split
  · exact paid0 s
  · exact paid1 s
set_option maxHeartbeats 4000000 in
theorem less_v (a b : Int) (ha : -1000000 ≤ a ∧ a ≤ 1000000) (hb : -1000000 ≤ b ∧ b ≤ 1000000) : FnV Tryd.prog 114 [i64 a, i64 b] [] (.tuple #[i64 (max 0 (a - b)), i64 (max 0 (b - a))]) := by
 refine FnV.intro Tryd.call114 Tryd.func114 rfl Tryd.ntmps114 rfl ?_
 intro W M Rf
 refine r_seq ?_
 refine r_region ?_
 refine o_q _ rfl rfl rfl (v_assign rfl rfl) ?_
 refine o_q _ rfl rfl rfl (v_assign rfl rfl) ?_
 refine o_nil ?_
 with_reducible refine r_then ?_
 refine r_seq ?_
 refine r_region ?_
 refine o_q _ rfl rfl rfl (v_move rfl rfl) ?_
 refine o_q _ rfl rfl rfl (v_move rfl rfl) ?_
 refine o_q _ rfl rfl rfl (v_sub rfl rfl rfl (by omega)) ?_
 refine o_q _ rfl rfl rfl (v_max2 rfl rfl rfl) ?_
 refine o_q _ rfl rfl rfl (v_move rfl rfl) ?_
 refine o_q _ rfl rfl rfl (v_move rfl rfl) ?_
 refine o_q _ rfl rfl rfl (v_sub rfl rfl rfl (by omega)) ?_
 refine o_q _ rfl rfl rfl (v_max2 rfl rfl rfl) ?_
 refine o_q _ rfl rfl rfl (v_assign rfl rfl) ?_
 refine o_q _ rfl rfl rfl (v_assign rfl rfl) ?_
 refine o_nil ?_
 with_reducible refine r_then ?_
 refine r_ret ?_
 exact r_retv2 (Rd.two rfl (RdI.tmp rfl) (RdI.tmp rfl)) rfl SelMC.sel SubRC.sub
set_option maxHeartbeats 4000000 in
theorem more_v (a b : Int) (ha : -1000000 ≤ a ∧ a ≤ 1000000) (hb : -1000000 ≤ b ∧ b ≤ 1000000) : FnV Tryd.prog 104 [i64 a, i64 b] [] (i64 (a + b)) := by
 refine FnV.intro Tryd.call104 Tryd.func104 rfl Tryd.ntmps104 rfl ?_
 intro W M Rf
 refine r_seq ?_
 refine r_region ?_
 refine o_q _ rfl rfl rfl (v_assign rfl rfl) ?_
 refine o_nil ?_
 with_reducible refine r_then ?_
 refine r_seq ?_
 refine r_region ?_
 refine o_q _ rfl rfl rfl (v_move rfl rfl) ?_
 refine o_q _ rfl rfl rfl (v_move rfl rfl) ?_
 refine o_q _ rfl rfl rfl (v_add rfl rfl rfl (by omega)) ?_
 refine o_q _ rfl rfl rfl (v_assign rfl rfl) ?_
 refine o_nil ?_
 with_reducible refine r_then ?_
 refine r_ret ?_
 exact r_retv2 (Rd.tmp rfl rfl) rfl SelMC.sel SubRC.sub
end Go.Proofs.YtpfgiednfjfdmaaDoor


namespace Go.Proofs.YtpfgiednfjfdmaaDoor
open Go.G Debt10
set_option maxRecDepth 1000000
attribute [local irreducible] G.ParO G.Fin
set_option maxHeartbeats 4000000 in
theorem sum_v (xs : List Int) (oa : Option Addr) (c : Nat) (hl : xs.length ≤ 1000) (hb : ∀ x ∈ xs, 0 ≤ x ∧ x ≤ 1000000) : FnV Tryd.prog 82 [.slice oa xs.length c] [rowD oa 1 encI xs] (i64 xs.sum) := by
 refine FnV.intro Tryd.call82 Tryd.func82 rfl Tryd.ntmps82 rfl ?_
 intro W M Rf
 refine r_seq ?_
 refine r_region ?_
 refine o_q _ rfl rfl rfl (v_assign rfl rfl) ?_
 refine o_nil ?_
 with_reducible refine r_then ?_
 refine r_seq ?_
 refine r_seq ?_
 refine r_region ?_
 refine o_q _ rfl rfl rfl (v_move rfl rfl) ?_
 refine o_q _ rfl rfl rfl (v_len rfl rfl Tryd.underlying123 rfl) ?_
 refine o_q _ rfl rfl rfl (v_move rfl rfl) ?_
 refine o_nil ?_
 with_reducible refine r_then ?_
 refine r_block ?_
 refine r_loop (ι := Nat) (fun k => k ≤ xs.length) (fun k => [(2, i64 (sumK xs k)), (5, .slice oa xs.length c), (6, i64 xs.length), (7, i64 k)]) (fun k => M) (fun k => [rowD oa 1 encI xs] ++ Rf) (fun k => xs.length - k) 0 ?_ ?_ ?_
 ·
  exact r_here (by repeat (first | exact FSub.nil | refine FSub.cons rfl ?_)) SelMC.sel SubRC.sub
 ·
  omega
 ·
  rintro k hI0
  refine r_seq ?_
  refine r_region ?_
  refine o_q _ rfl rfl rfl (v_lss rfl rfl rfl) ?_
  refine o_nil ?_
  with_reducible refine r_then ?_
  refine r_seq ?_
  refine r_condd rfl (fun hc8 => ?_) (fun hc8 => ?_)
  ·
   refine r_skip ?_
   with_reducible refine r_then ?_
   refine r_seq ?_
   refine r_block ?_
   refine r_seq ?_
   refine r_region ?_
   refine o_q _ rfl rfl rfl (v_indexAddrSn rfl Tryd.underlying123 inf75 rfl rfl rfl (by omega) rfl) ?_
   refine o_q _ rfl rfl rfl (v_loadE1 (v := i64 (xs.getD k default)) rfl Tryd.underlying75 rfl rfl (by omega) rfl rfl) ?_
   refine o_q _ rfl rfl rfl (v_assign rfl rfl) ?_
   refine o_nil ?_
   with_reducible refine r_then ?_
   have hk1 := sumK_bd (by omega) hb (k := k) (by omega)
   have hk2 := sumK_bd (by omega) hb (k := k + 1) (by omega)
   have hk3 := sumK_s (l := xs) (k := k) (d := default) (by omega)
   refine r_region ?_
   refine o_q _ rfl rfl rfl (v_move rfl rfl) ?_
   refine o_q _ rfl rfl rfl (v_move rfl rfl) ?_
   refine o_q _ rfl rfl rfl (v_add rfl rfl rfl (by omega)) ?_
   refine o_q _ rfl rfl rfl (v_assign rfl rfl) ?_
   refine o_nil ?_
   with_reducible refine r_in_normal ?_; refine r_then ?_
   refine r_region ?_
   refine o_q _ rfl rfl rfl (v_add rfl rfl rfl (by omega)) ?_
   refine o_q _ rfl rfl rfl (v_move rfl rfl) ?_
   refine o_nil ?_
   with_reducible refine r_then ?_
   refine r_next (k + 1) ?_ ?_ ?_
   ·
    rw [hk3]
    exact r_here (by repeat (first | exact FSub.nil | refine FSub.cons rfl ?_)) SelMC.sel SubRC.sub
   ·
    omega
   ·
    omega
  ·
   refine r_exit ?_
   with_reducible refine r_then_exit ?_; refine r_then_exit ?_; refine r_in_here ?_; refine r_then ?_
   refine r_seq ?_
   refine r_region ?_
   refine o_q _ rfl rfl rfl (v_move rfl rfl) ?_
   refine o_q _ rfl rfl rfl (v_assign rfl rfl) ?_
   refine o_nil ?_
   with_reducible refine r_then ?_
   refine r_ret ?_
   obtain rfl : k = xs.length := by omega
   exact r_retv2 (Rd.tmp rfl rfl) (by rw [sumK_all]) SelMC.sel SubRC.sub
set_option maxHeartbeats 4000000 in
theorem left_v (l : List Opn) (oa : Option Addr) (c : Nat) (A : Int) (hl : l.length ≤ 100) (hb : ∀ x ∈ l, 0 ≤ x.left ∧ x.left ≤ 1000000) : FnV Tryd.prog 72 [vA oa l.length c A] [rowD oa 4 encO l] (i64 (total l)) := by
 refine FnV.intro Tryd.call72 Tryd.func72 rfl Tryd.ntmps72 rfl ?_
 intro W M Rf
 refine r_seq ?_
 refine r_region ?_
 refine o_boxA rfl rfl rfl rfl rfl (fun b1 => ?_)
 refine o_q _ rfl rfl rfl (v_assign rfl rfl) ?_
 refine o_nil ?_
 with_reducible refine r_then ?_
 refine r_seq ?_
 refine r_region ?_
 refine o_q _ rfl rfl rfl (v_assign rfl rfl) ?_
 refine o_nil ?_
 with_reducible refine r_then ?_
 refine r_seq ?_
 refine r_seq ?_
 refine Imp.nilL 75 1 encI ?_
 refine r_region ?_
 refine o_q _ rfl rfl rfl (v_fieldAddr rfl Tryd.underlying77 inf74 rfl rfl rfl rfl) ?_
 refine o_q _ rfl rfl rfl (v_ld1 rfl Tryd.underlying74 rfl rfl rfl) ?_
 refine o_q _ rfl rfl rfl (v_len rfl rfl Tryd.underlying74 rfl) ?_
 refine o_q _ rfl rfl rfl (v_move rfl rfl) ?_
 refine o_nil ?_
 with_reducible refine r_then ?_
 refine r_block ?_
 refine r_loop (ι := Nat × Value) (fun gh => gh.1 ≤ l.length) (fun gh => [(1, pt b1 0), (3, gh.2), (7, .slice oa l.length c), (8, i64 l.length), (9, i64 gh.1)]) (fun gh => ownL gh.2 75 1 encI ((l.map (·.left)).take gh.1) :: M) (fun gh => [rowD oa 4 encO l] ++ Rf) (fun gh => l.length - gh.1) (0, .slice none 0 0) ?_ ?_ ?_
 ·
  refine Imp.own_to (.slice none 0 0) ((l.map (·.left)).take 0) rfl ?_
  exact r_here (by repeat (first | exact FSub.nil | refine FSub.cons rfl ?_)) SelMC.sel SubRC.sub
 ·
  exact Nat.zero_le _
 ·
  rintro ⟨k, v⟩ hI0
  dsimp only at hI0
  dsimp only
  have hI : k ≤ l.length := hI0
  have hlen : ((l.map (·.left)).take k).length = k := by rw [List.length_take, List.length_map]; omega
  refine r_seq ?_
  refine r_region ?_
  refine o_q _ rfl rfl rfl (v_lss rfl rfl rfl) ?_
  refine o_nil ?_
  with_reducible refine r_then ?_
  refine r_seq ?_
  refine r_condd rfl (fun hc10 => ?_) (fun hc10 => ?_)
  ·
   refine r_skip ?_
   with_reducible refine r_then ?_
   refine r_seq ?_
   refine r_block ?_
   refine r_seq ?_
   refine r_region ?_
   refine o_q _ rfl rfl rfl (v_indexAddrSn rfl Tryd.underlying74 inf116 rfl rfl rfl (by omega) rfl) ?_
   refine o_q _ rfl rfl rfl (v_loadEN (us := encO (l.getD k default)) rfl Tryd.underlying116 rfl inf116 rfl (by omega) rfl rfl rfl) ?_
   refine o_alloc rfl inf116 rfl rfl rfl rfl rfl (fun b5 => ?_)
   refine o_st rfl inf116 rfl rfl rfl rfl rfl rfl rfl rfl ?_
   refine o_nil ?_
   with_reducible refine r_then ?_
   refine Imp.box_to b5 (encO (l.getD k default)) rfl ?_
   refine r_region ?_
   refine o_q _ rfl rfl rfl (v_move rfl rfl) ?_
   refine o_q _ rfl rfl rfl (v_fieldAddr rfl Tryd.underlying116 inf75 rfl rfl rfl rfl) ?_
   refine o_q _ rfl rfl rfl (v_ld1 rfl Tryd.underlying75 rfl rfl rfl) ?_
   refine o_lit rfl Tryd.underlying123 inf75 rfl rfl rfl rfl rfl rfl rfl rfl (by repeat (first | exact trivial | refine ⟨rfl, ?_⟩)) (by rfl) (fun b16 => ?_)
   refine o_app1 ((l.getD k default).left) rfl Tryd.underlying123 inf75 rfl (by rfl) (by rfl) rfl rfl rfl rfl rfl (by rfl) (by rfl) (by rfl) (by first | omega | (constructor <;> first | omega | decide)) (fun v17 => ?_)
   refine o_q _ rfl rfl rfl (v_assign rfl rfl) ?_
   refine o_nil ?_
   with_reducible refine r_in_normal ?_; refine r_then ?_
   refine r_region ?_
   refine o_q _ rfl rfl rfl (v_add rfl rfl rfl (by omega)) ?_
   refine o_q _ rfl rfl rfl (v_move rfl rfl) ?_
   refine o_nil ?_
   with_reducible refine r_then ?_
   exact r_next ((k + 1, v17)) (by refine Imp.own_to v17 ((l.map (·.left)).take (k + 1)) (by rw [← take_next (d := default) (by rw [List.length_map]; omega), map_at (d := default) (by omega)]) ?_; exact r_here (by repeat (first | exact FSub.nil | refine FSub.cons rfl ?_)) SelMC.sel SubRC.sub) (by first | omega | (show _ + 1 ≤ _; omega)) (by first | omega | (show _ - (_ + 1) < _ - _; omega))
  ·
   refine r_exit ?_
   with_reducible refine r_then_exit ?_; refine r_then_exit ?_; refine r_in_here ?_; refine r_then ?_
   refine r_seq ?_
   obtain rfl : k = l.length := by omega
   have hll : ((l.map (·.left)).take l.length).length = l.length := by rw [List.length_take, List.length_map]; omega
   refine Imp.settleS v encI_len (fun ob oc he => ?_)
   subst he
   refine r_region ?_
   refine o_q _ rfl rfl rfl (v_move rfl rfl) ?_
   refine o_q _ rfl rfl rfl (OpQ.fn (sum_v ((l.map (·.left)).take l.length) ob oc (by omega) (fun x hx => by obtain ⟨y, hy, rfl⟩ := List.mem_map.1 (List.mem_of_mem_take hx); exact hb y hy)) rfl rfl SubRC.sub) ?_
   refine o_q _ rfl rfl rfl (v_assign rfl rfl) ?_
   refine o_nil ?_
   with_reducible refine r_then ?_
   refine r_ret ?_
   exact r_retv2 (Rd.tmp rfl rfl) (by rw [total_map, show l.length = (l.map (·.left)).length from (List.length_map _).symm, List.take_length]) SelMC.sel SubRC.sub
set_option maxHeartbeats 4000000 in
theorem set_v (l : List Opn) (oa : Option Addr) (c : Nat) (A : Int) (hl : l.length ≤ 100) (hb : ∀ x ∈ l, x.number < 6) : FnV Tryd.prog 54 [vA oa l.length c A] [rowD oa 4 encO l] (i64 (setK l l.length : Nat)) := by
 refine FnV.intro Tryd.call54 Tryd.func54 rfl Tryd.ntmps54 rfl ?_
 intro W M Rf
 refine r_seq ?_
 refine r_region ?_
 refine o_boxA rfl rfl rfl rfl rfl (fun b1 => ?_)
 refine o_q _ rfl rfl rfl (v_assign rfl rfl) ?_
 refine o_nil ?_
 with_reducible refine r_then ?_
 refine r_seq ?_
 refine r_seq ?_
 refine r_region ?_
 refine o_q _ rfl rfl rfl (v_fieldAddr rfl Tryd.underlying77 inf74 rfl rfl rfl rfl) ?_
 refine o_q _ rfl rfl rfl (v_ld1 rfl Tryd.underlying74 rfl rfl rfl) ?_
 refine o_q _ rfl rfl rfl (v_len rfl rfl Tryd.underlying74 rfl) ?_
 refine o_q _ rfl rfl rfl (v_move rfl rfl) ?_
 refine o_nil ?_
 with_reducible refine r_then ?_
 refine r_block ?_
 refine r_loop (ι := Nat) (fun k => k ≤ l.length) (fun k => [(1, pt b1 0), (2, i64 (setK l k : Nat)), (6, .slice oa l.length c), (7, i64 l.length), (8, i64 k)]) (fun k => M) (fun k => [rowD oa 4 encO l] ++ Rf) (fun k => l.length - k) 0 ?_ ?_ ?_
 ·
  exact r_here (by repeat (first | exact FSub.nil | refine FSub.cons rfl ?_)) SelMC.sel SubRC.sub
 ·
  omega
 ·
  rintro k hI0
  refine r_seq ?_
  refine r_region ?_
  refine o_q _ rfl rfl rfl (v_lss rfl rfl rfl) ?_
  refine o_nil ?_
  with_reducible refine r_then ?_
  refine r_seq ?_
  refine r_condd rfl (fun hc9 => ?_) (fun hc9 => ?_)
  ·
   refine r_skip ?_
   with_reducible refine r_then ?_
   refine r_seq ?_
   refine r_block ?_
   refine r_seq ?_
   refine r_region ?_
   refine o_q _ rfl rfl rfl (v_indexAddrSn rfl Tryd.underlying74 inf116 rfl rfl rfl (by omega) rfl) ?_
   refine o_q _ rfl rfl rfl (v_loadEN (us := encO (l.getD k default)) rfl Tryd.underlying116 rfl inf116 rfl (by omega) rfl rfl rfl) ?_
   refine o_alloc rfl inf116 rfl rfl rfl rfl rfl (fun b4 => ?_)
   refine o_st rfl inf116 rfl rfl rfl rfl rfl rfl rfl rfl ?_
   refine o_nil ?_
   with_reducible refine r_then ?_
   refine Imp.box_to b4 (encO (l.getD k default)) rfl ?_
   have hnb := hb (l.getD k default) (mem_at (by omega))
   refine r_region ?_
   refine o_q _ rfl rfl rfl (v_move rfl rfl) ?_
   refine o_q _ rfl rfl rfl (v_fieldAddr rfl Tryd.underlying116 inf3 rfl rfl rfl rfl) ?_
   refine o_q _ rfl rfl rfl (v_ld1 rfl Tryd.underlying3 rfl rfl rfl) ?_
   refine o_q _ rfl rfl rfl (v_shl1 (h := (l.getD k default).number) rfl rfl rfl (by omega) rfl) ?_
   refine o_q _ rfl rfl rfl (v_orn (a := setK l k) (b := 2 ^ (l.getD k default).number) rfl rfl rfl (setK_lt hb (by omega)) (Nat.pow_lt_pow_right (by decide) (by omega))) ?_
   refine o_q _ rfl rfl rfl (v_assign rfl rfl) ?_
   refine o_nil ?_
   with_reducible refine r_in_normal ?_; refine r_then ?_
   refine r_region ?_
   refine o_q _ rfl rfl rfl (v_add rfl rfl rfl (by omega)) ?_
   refine o_q _ rfl rfl rfl (v_move rfl rfl) ?_
   refine o_nil ?_
   with_reducible refine r_then ?_
   refine r_next (k + 1) ?_ ?_ ?_
   ·
    rw [← setK_s (by omega)]
    exact r_here (by repeat (first | exact FSub.nil | refine FSub.cons rfl ?_)) SelMC.sel SubRC.sub
   ·
    omega
   ·
    omega
  ·
   refine r_exit ?_
   with_reducible refine r_then_exit ?_; refine r_then_exit ?_; refine r_in_here ?_; refine r_then ?_
   refine r_seq ?_
   refine r_region ?_
   refine o_q _ rfl rfl rfl (v_move rfl rfl) ?_
   refine o_q _ rfl rfl rfl (v_assign rfl rfl) ?_
   refine o_nil ?_
   with_reducible refine r_then ?_
   refine r_ret ?_
   obtain rfl : k = l.length := by omega
   exact r_retv2 (Rd.tmp rfl rfl) rfl SelMC.sel SubRC.sub
theorem oneO (x : Opn) : oneCells (encO x) = true := rfl
set_option maxHeartbeats 4000000 in
theorem pay_s (l : List Opn) (oa : Option Addr) (c : Nat) (A : Int) (hl : l.length ≤ 100) (hb : ∀ x ∈ l, 0 ≤ x.left ∧ x.left ≤ 1000000) (hA : 0 ≤ A ∧ A ≤ 1000000) : FnS Tryd.prog 103 [vA oa l.length c A] [] [rowD oa 4 encO l] (fun e M' R' => ∃ x : Option Addr × Nat, e = .returned (vA x.1 (payL l A).length x.2 (restF l A)) ∧ M' = [] ∧ R' = [rowD x.1 4 encO (payL l A)]) := by
 refine FnS.intro0 Tryd.call103 Tryd.func103 rfl Tryd.ntmps103 rfl ?_
 intro W M Rf
 refine r_seq ?_
 refine r_region ?_
 refine o_boxA rfl rfl rfl rfl rfl (fun b1 => ?_)
 refine o_alloc rfl inf77 rfl rfl rfl rfl rfl (fun b2 => ?_)
 refine o_nil ?_
 with_reducible refine r_then ?_
 refine r_seq ?_
 refine r_region ?_
 refine o_q _ rfl rfl rfl (v_fieldAddr rfl Tryd.underlying77 inf74 rfl rfl rfl rfl) ?_
 refine o_q _ rfl rfl rfl (v_ld1 rfl Tryd.underlying74 rfl rfl rfl) ?_
 refine o_q _ rfl rfl rfl (v_len rfl rfl Tryd.underlying74 rfl) ?_
 refine o_make (enc := encO) (sz := 4) (⟨0, 0, 0, 0⟩ : Opn) rfl Tryd.underlying74 inf116 rfl rfl rfl rfl rfl rfl rfl rfl rfl (Nat.zero_le _) ⟨by omega, by decide⟩ (fun b10 => ?_)
 refine o_q _ rfl rfl rfl (v_assign rfl rfl) ?_
 refine o_nil ?_
 with_reducible refine r_then ?_
 refine r_seq ?_
 refine r_seq ?_
 refine r_region ?_
 refine o_q _ rfl rfl rfl (v_fieldAddr rfl Tryd.underlying77 inf74 rfl rfl rfl rfl) ?_
 refine o_q _ rfl rfl rfl (v_ld1 rfl Tryd.underlying74 rfl rfl rfl) ?_
 refine o_q _ rfl rfl rfl (v_len rfl rfl Tryd.underlying74 rfl) ?_
 refine o_q _ rfl rfl rfl (v_move rfl rfl) ?_
 refine o_nil ?_
 with_reducible refine r_then ?_
 refine r_block ?_
 refine r_loop (ι := Nat × Value) (fun gh => gh.1 ≤ l.length) (fun gh => [(1, pt b1 0), (2, pt b2 0), (3, gh.2), (12, .slice oa l.length c), (13, i64 l.length), (14, i64 gh.1)]) (fun gh => ownL gh.2 116 4 encO (payK l A gh.1) :: bx b1 77 [.slice oa l.length c, i64 (restK l A gh.1)] :: bx b2 77 [.slice none 0 0, i64 0] :: M) (fun gh => [rowD oa 4 encO l] ++ Rf) (fun gh => l.length - gh.1) (0, .slice (some ⟨b10, 0, none⟩) 0 l.length) ?_ ?_ ?_
 ·
  refine Imp.own_to (.slice (some ⟨b10, 0, none⟩) 0 l.length) (payK l A 0) rfl ?_
  refine Imp.box_to b1 [.slice oa l.length c, i64 (restK l A 0)] rfl ?_
  refine Imp.box_to b2 [.slice none 0 0, i64 0] rfl ?_
  exact r_here (by repeat (first | exact FSub.nil | refine FSub.cons rfl ?_)) SelMC.sel SubRC.sub
 ·
  exact Nat.zero_le _
 ·
  rintro ⟨k, v⟩ hI0
  dsimp only at hI0
  dsimp only
  have hI : k ≤ l.length := hI0
  have hlen := payK_len l A k
  have hq := restK_bd (fun x hx => (hb x hx).1) hA.1 hI
  have hq2 := fun h => hb (l.getD k default) (mem_at (l := l) (d := default) h)
  have hr1 := fun h => restK_s (l := l) (A := A) (k := k) h
  refine r_seq ?_
  refine r_region ?_
  refine o_q _ rfl rfl rfl (v_lss rfl rfl rfl) ?_
  refine o_nil ?_
  with_reducible refine r_then ?_
  refine r_seq ?_
  refine r_condd rfl (fun hc15 => ?_) (fun hc15 => ?_)
  ·
   refine r_skip ?_
   with_reducible refine r_then ?_
   refine r_seq ?_
   refine r_block ?_
   refine r_seq ?_
   refine r_region ?_
   refine o_q _ rfl rfl rfl (v_indexAddrSn rfl Tryd.underlying74 inf116 rfl rfl rfl (by omega) rfl) ?_
   refine o_q _ rfl rfl rfl (v_loadEN (us := encO (l.getD k default)) rfl Tryd.underlying116 rfl inf116 rfl (by omega) rfl rfl rfl) ?_
   refine o_alloc rfl inf116 rfl rfl rfl rfl rfl (fun b5 => ?_)
   refine o_st rfl inf116 rfl rfl rfl rfl rfl rfl rfl rfl ?_
   refine o_nil ?_
   with_reducible refine r_then ?_
   refine r_seq ?_
   refine Imp.box_to b5 (encO (l.getD k default)) rfl ?_
   refine r_region ?_
   refine o_q _ rfl rfl rfl (v_fieldAddr rfl Tryd.underlying116 inf75 rfl rfl rfl rfl) ?_
   refine o_q _ rfl rfl rfl (v_ld1 rfl Tryd.underlying75 rfl rfl rfl) ?_
   refine o_q _ rfl rfl rfl (v_makeFunc rfl rfl rfl) ?_
   refine o_q _ rfl rfl rfl (v_assign rfl rfl) ?_
   refine o_nil ?_
   with_reducible refine r_then ?_
   refine r_seq ?_
   refine r_region ?_
   refine o_q _ rfl rfl rfl (v_move rfl rfl) ?_
   refine o_q _ rfl rfl rfl (v_fieldAddr rfl Tryd.underlying77 inf75 rfl rfl rfl rfl) ?_
   refine o_q _ rfl rfl rfl (v_ld1 rfl Tryd.underlying75 rfl rfl rfl) ?_
   refine o_q _ rfl rfl rfl (OpQ.call (less_v (l.getD k default).left (restK l A k) (by omega) (by omega)) rfl [i64 (l.getD k default).left] [] rfl rfl rfl SubRC.sub) ?_
   refine o_q _ rfl rfl rfl (v_move rfl rfl) ?_
   refine o_q _ rfl rfl rfl (v_extract rfl rfl rfl) ?_
   refine o_q _ rfl rfl rfl (v_extract rfl rfl rfl) ?_
   refine o_q _ rfl rfl rfl (v_fieldAddr rfl Tryd.underlying116 inf75 rfl rfl rfl rfl) ?_
   refine o_st rfl inf75 rfl rfl rfl rfl rfl rfl rfl rfl ?_
   refine o_q _ rfl rfl rfl (v_fieldAddr rfl Tryd.underlying77 inf75 rfl rfl rfl rfl) ?_
   refine o_st rfl inf75 rfl rfl rfl rfl rfl rfl rfl rfl ?_
   refine o_nil ?_
   with_reducible refine r_then ?_
   refine r_seq ?_
   refine Imp.box_to b5 [i64 (l.getD k default).number, i64 (l.getD k default).day, i64 (max 0 ((l.getD k default).left - restK l A k)), i64 (l.getD k default).late] rfl ?_
   refine Imp.box_to b1 [.slice oa l.length c, i64 (restK l A (k + 1))] (by rw [hr1 (by omega)]; rfl) ?_
   refine r_region ?_
   refine o_q _ rfl rfl rfl (v_fieldAddr rfl Tryd.underlying116 inf75 rfl rfl rfl rfl) ?_
   refine o_q _ rfl rfl rfl (v_ld1 rfl Tryd.underlying75 rfl rfl rfl) ?_
   refine o_q _ rfl rfl rfl (v_gtr rfl rfl rfl) ?_
   refine o_nil ?_
   with_reducible refine r_then ?_
   refine r_condd rfl (fun hc32 => ?_) (fun hc32 => ?_)
   ·
    refine r_region ?_
    refine o_q _ rfl rfl rfl (v_move rfl rfl) ?_
    refine o_q _ rfl rfl rfl (v_ldW rfl Tryd.underlying116 rfl inf116 rfl rfl) ?_
    refine o_lit rfl Tryd.underlying74 inf116 rfl rfl rfl rfl rfl rfl rfl rfl (by repeat (first | exact trivial | refine ⟨rfl, ?_⟩)) (by rfl) (fun b35 => ?_)
    refine o_app1 (({ (l.getD k default) with left := max 0 ((l.getD k default).left - restK l A k) } : Opn)) rfl Tryd.underlying74 inf116 rfl (by rfl) (by rfl) rfl rfl rfl rfl rfl (by rfl) (by rfl) (by rfl) (by first | omega | (constructor <;> first | omega | decide)) (fun v36 => ?_)
    refine o_q _ rfl rfl rfl (v_assign rfl rfl) ?_
    refine o_nil ?_
    with_reducible refine r_in_normal ?_; refine r_then ?_
    refine r_region ?_
    refine o_q _ rfl rfl rfl (v_add rfl rfl rfl (by omega)) ?_
    refine o_q _ rfl rfl rfl (v_move rfl rfl) ?_
    refine o_nil ?_
    with_reducible refine r_then ?_
    exact r_next ((k + 1, v36)) (by refine Imp.own_to v36 (payK l A (k + 1)) (payK_y (by omega) (by omega)) ?_; exact r_here (by repeat (first | exact FSub.nil | refine FSub.cons rfl ?_)) SelMC.sel SubRC.sub) (by first | omega | (show _ + 1 ≤ _; omega)) (by first | omega | (show _ - (_ + 1) < _ - _; omega))
   ·
    refine r_skip ?_
    with_reducible refine r_in_normal ?_; refine r_then ?_
    refine r_region ?_
    refine o_q _ rfl rfl rfl (v_add rfl rfl rfl (by omega)) ?_
    refine o_q _ rfl rfl rfl (v_move rfl rfl) ?_
    refine o_nil ?_
    with_reducible refine r_then ?_
    exact r_next ((k + 1, v)) (by refine Imp.own_to v (payK l A (k + 1)) (payK_n (by omega) (by omega)) ?_; exact r_here (by repeat (first | exact FSub.nil | refine FSub.cons rfl ?_)) SelMC.sel SubRC.sub) (by first | omega | (show _ + 1 ≤ _; omega)) (by first | omega | (show _ - (_ + 1) < _ - _; omega))
  ·
   refine r_exit ?_
   with_reducible refine r_then_exit ?_; refine r_then_exit ?_; refine r_in_here ?_; refine r_then ?_
   refine r_seq ?_
   obtain rfl : k = l.length := by omega
   refine Imp.settleS v encO_len (fun ob oc he => ?_)
   subst he
   refine r_region ?_
   refine o_q _ rfl rfl rfl (v_move rfl rfl) ?_
   refine o_q _ rfl rfl rfl (v_fieldAddr rfl Tryd.underlying77 inf74 rfl rfl rfl rfl) ?_
   refine o_st rfl inf74 rfl rfl rfl rfl rfl rfl rfl rfl ?_
   refine o_nil ?_
   with_reducible refine r_then ?_
   refine r_seq ?_
   refine Imp.box_to b1 [.slice ob (payK l A l.length).length oc, i64 (restK l A l.length)] rfl ?_
   refine r_region ?_
   refine o_q _ rfl rfl rfl (v_ldW rfl Tryd.underlying77 rfl inf77 rfl rfl) ?_
   refine o_st rfl inf77 rfl rfl rfl rfl rfl rfl rfl rfl ?_
   refine o_nil ?_
   with_reducible refine r_then ?_
   refine r_ret ?_
   refine Imp.box_to b2 [.slice ob (payK l A l.length).length oc, i64 (restK l A l.length)] rfl ?_
   exact r_rete [] [rowD ob 4 encO (payK l A l.length)] (Rd.one rfl (RdI.cellW Tryd.underlying77 rfl inf77 rfl rfl)) ⟨(ob, oc), by rw [payK_all, restK_all], rfl, by rw [payK_all]⟩ SelMC.sel SubRC.sub
theorem growC {l : List Opn} {d k j : Nat} (hk : k < l.length) (hj : j < 4) : ((growK l d k).flatMap encO)[k * 4 + j]? = (encO (l.getD k default))[j]? := by
  rw [flat_get0 encO_len (by rw [growK_len (by omega)]; exact hk) hj, growK_at hk]
theorem growS {l : List Opn} {d k : Nat} (hk : k < l.length) (h : (l.getD k default).day < d) : splice ((growK l d k).flatMap encO) (k * 4 + 2) [i64 ((l.getD k default).left + (l.getD k default).late)] = (growK l d (k + 1)).flatMap encO := by
  rw [growK_y hk h]
  exact flat_set0 encO_len (by rw [growK_len (by omega)]; exact hk) (by decide) (by rw [growK_at hk]; rfl)
theorem growB {l : List Opn} {d k : Nat} (hk : k < l.length) : Nat.ble (k * 4 + 2 + 1) ((growK l d k).flatMap encO).length = true := by
  refine Nat.ble_eq_true_of_le ?_
  rw [flat_len encO_len, growK_len (by omega)]; omega
set_option maxHeartbeats 4000000 in
theorem grow_s (l : List Opn) (oa : Option Addr) (c : Nat) (A : Int) (d : Nat) (hl : l.length ≤ 100) (hb : ∀ x ∈ l, (0 ≤ x.left ∧ x.left ≤ 100000) ∧ (0 ≤ x.late ∧ x.late ≤ 10)) (hd : d ≤ 1000) : FnS Tryd.prog 85 [vA oa l.length c A, i64 (d : Int)] [] [rowD oa 4 encO l] (fun e M' R' => ∃ x : Option Addr × Nat, e = .returned (vA x.1 (growL d l).length x.2 A) ∧ M' = [] ∧ R' = [rowD x.1 4 encO (growL d l)]) := by
 refine FnS.intro0 Tryd.call85 Tryd.func85 rfl Tryd.ntmps85 rfl ?_
 intro W M Rf
 refine r_seq ?_
 refine r_region ?_
 refine o_boxA rfl rfl rfl rfl rfl (fun b2 => ?_)
 refine o_alloc rfl inf77 rfl rfl rfl rfl rfl (fun b4 => ?_)
 refine o_nil ?_
 with_reducible refine r_then ?_
 refine r_seq ?_
 refine r_region ?_
 refine o_q _ rfl rfl rfl (v_assign rfl rfl) ?_
 refine o_nil ?_
 with_reducible refine r_then ?_
 refine r_seq ?_
 refine r_region ?_
 refine o_q _ rfl rfl rfl (v_fieldAddr rfl Tryd.underlying77 inf74 rfl rfl rfl rfl) ?_
 refine o_q _ rfl rfl rfl (v_ld1 rfl Tryd.underlying74 rfl rfl rfl) ?_
 refine o_q _ rfl rfl rfl (v_len rfl rfl Tryd.underlying74 rfl) ?_
 refine o_make (enc := encO) (sz := 4) (⟨0, 0, 0, 0⟩ : Opn) rfl Tryd.underlying74 inf116 rfl rfl rfl rfl rfl rfl rfl rfl rfl (Nat.le_refl _) ⟨by omega, by decide⟩ (fun b12 => ?_)
 refine o_q _ rfl rfl rfl (v_assign rfl rfl) ?_
 refine o_nil ?_
 with_reducible refine r_then ?_
 refine r_seq ?_
 refine r_region ?_
 refine o_q _ rfl rfl rfl (v_move rfl rfl) ?_
 refine o_q _ rfl rfl rfl (v_fieldAddr rfl Tryd.underlying77 inf74 rfl rfl rfl rfl) ?_
 refine o_q _ rfl rfl rfl (v_ld1 rfl Tryd.underlying74 rfl rfl rfl) ?_
 refine o_copy (enc := encO) (sz := 4) (xs := List.replicate l.length (⟨0, 0, 0, 0⟩ : Opn)) (ys := l) rfl Tryd.underlying74 inf116 rfl rfl rfl rfl encO_len oneO rfl rfl rfl (by simp) ?_
 refine o_nil ?_
 with_reducible refine r_then ?_
 refine r_seq ?_
 refine r_seq ?_
 refine Imp.boxOwn (xs := l) (b := b12) ?_
 refine r_region ?_
 refine o_q _ rfl rfl rfl (v_move rfl rfl) ?_
 refine o_q _ rfl rfl rfl (v_len rfl rfl Tryd.underlying74 rfl) ?_
 refine o_q _ rfl rfl rfl (v_move rfl rfl) ?_
 refine o_nil ?_
 with_reducible refine r_then ?_
 refine r_block ?_
 refine r_loop (ι := Nat) (fun k => k ≤ l.length) (fun k => [(1, i64 (d : Int)), (2, pt b2 0), (4, pt b4 0), (5, .func (.func 104) #[] #[]), (6, .slice (some ⟨b12, 0, none⟩) l.length l.length), (18, i64 l.length), (19, i64 k)]) (fun k => bx b12 116 ((growK l d k).flatMap encO) :: bx b2 77 [.slice oa l.length c, i64 A] :: bx b4 77 [.slice none 0 0, i64 0] :: M) (fun k => [rowD oa 4 encO l] ++ Rf) (fun k => l.length - k) 0 ?_ ?_ ?_
 ·
  refine Imp.box_to b12 ((growK l d 0).flatMap encO) rfl ?_
  refine Imp.box_to b4 [.slice none 0 0, i64 0] rfl ?_
  exact r_here (by repeat (first | exact FSub.nil | refine FSub.cons rfl ?_)) SelMC.sel SubRC.sub
 ·
  omega
 ·
  rintro k hI0
  refine r_seq ?_
  refine r_region ?_
  refine o_q _ rfl rfl rfl (v_lss rfl rfl rfl) ?_
  refine o_nil ?_
  with_reducible refine r_then ?_
  refine r_seq ?_
  refine r_condd rfl (fun hc20 => ?_) (fun hc20 => ?_)
  ·
   refine r_skip ?_
   with_reducible refine r_then ?_
   refine r_seq ?_
   refine r_block ?_
   refine r_seq ?_
   refine r_region ?_
   refine o_q _ rfl rfl rfl (v_move rfl rfl) ?_
   refine o_q _ rfl rfl rfl (v_assign rfl rfl) ?_
   refine o_nil ?_
   with_reducible refine r_then ?_
   refine r_seq ?_
   refine r_region ?_
   refine o_q _ rfl rfl rfl (v_move rfl rfl) ?_
   refine o_q _ rfl rfl rfl (v_move rfl rfl) ?_
   refine o_q _ rfl rfl rfl (v_indexAddrB rfl Tryd.underlying74 inf116 rfl rfl (by omega)) ?_
   refine o_q _ rfl rfl rfl (v_assign rfl rfl) ?_
   refine o_nil ?_
   with_reducible refine r_then ?_
   refine r_seq ?_
   have hq := hb (l.getD k default) (mem_at (by omega))
   refine r_region ?_
   refine o_q _ rfl rfl rfl (v_move rfl rfl) ?_
   refine o_q _ rfl rfl rfl (v_nilCheck rfl rfl) ?_
   refine o_q _ rfl rfl rfl (v_fieldAddr rfl Tryd.underlying116 inf3 rfl rfl rfl rfl) ?_
   refine o_q _ rfl rfl rfl (v_ld1 (v := i64 (l.getD k default).day) rfl Tryd.underlying3 rfl rfl (growC (j := 1) (by omega) (by decide))) ?_
   refine o_q _ rfl rfl rfl (v_move rfl rfl) ?_
   refine o_q _ rfl rfl rfl (v_lss rfl rfl rfl) ?_
   refine o_nil ?_
   with_reducible refine r_then ?_
   refine r_condd rfl (fun hc30 => ?_) (fun hc30 => ?_)
   ·
    refine r_par' 11 mixed (by kernel_rfl) (by rfl) ?_
    refine p_q _ rfl rfl rfl (fun _ _ => v_move rfl rfl) ?_
    refine p_q _ rfl rfl rfl (fun _ _ => v_move rfl rfl) ?_
    refine p_q _ rfl rfl rfl (fun _ _ => v_move rfl rfl) ?_
    refine p_q _ rfl rfl rfl (fun _ _ => v_nilCheck rfl rfl) ?_
    refine p_q _ rfl rfl rfl (fun _ _ => v_fieldAddr rfl Tryd.underlying116 inf75 rfl rfl rfl rfl) ?_
    refine p_q _ rfl rfl rfl (fun _ _ => v_ld1 (v := i64 (l.getD k default).left) rfl Tryd.underlying75 rfl rfl (growC (j := 2) (by omega) (by decide))) ?_
    refine p_q _ rfl rfl rfl (fun _ _ => v_move rfl rfl) ?_
    refine p_q _ rfl rfl rfl (fun _ _ => v_nilCheck rfl rfl) ?_
    refine p_q _ rfl rfl rfl (fun _ _ => v_fieldAddr rfl Tryd.underlying116 inf75 rfl rfl rfl rfl) ?_
    refine p_q _ rfl rfl rfl (fun _ _ => v_ld1 (v := i64 (l.getD k default).late) rfl Tryd.underlying75 rfl rfl (growC (j := 3) (by omega) (by decide))) ?_
    refine p_q _ rfl rfl rfl (fun _ _ => OpQ.call (more_v (l.getD k default).left (l.getD k default).late (by omega) (by omega)) rfl [] [] rfl rfl rfl SubRC.sub) ?_
    refine p_nil2 (by simp only [List.nil_append, List.cons_append]; rfl) rfl ?_
    refine f_q rfl ?_
    refine f_q rfl ?_
    refine f_q rfl ?_
    refine f_q rfl ?_
    refine f_q rfl ?_
    refine f_q rfl ?_
    refine f_q rfl ?_
    refine f_q rfl ?_
    refine f_q rfl ?_
    refine f_q rfl ?_
    refine f_q rfl ?_
    refine f_nil ?_
    refine o_q _ rfl rfl rfl (v_nilCheck rfl rfl) ?_
    refine o_q _ rfl rfl rfl (v_fieldAddr rfl Tryd.underlying116 inf75 rfl rfl rfl rfl) ?_
    refine o_st rfl inf75 rfl rfl rfl rfl rfl rfl rfl (growB (by omega)) ?_
    refine o_nil ?_
    with_reducible refine r_in_normal ?_; refine r_then ?_
    refine r_region ?_
    refine o_q _ rfl rfl rfl (v_add rfl rfl rfl (by omega)) ?_
    refine o_q _ rfl rfl rfl (v_move rfl rfl) ?_
    refine o_nil ?_
    with_reducible refine r_then ?_
    exact r_next (k + 1) (by refine Imp.box_to b12 ((growK l d (k + 1)).flatMap encO) (growS (by omega) (by omega)) ?_; exact r_here (by repeat (first | exact FSub.nil | refine FSub.cons rfl ?_)) SelMC.sel SubRC.sub) (by first | omega | (show _ + 1 ≤ _; omega)) (by first | omega | (show _ - (_ + 1) < _ - _; omega))
   ·
    refine r_skip ?_
    with_reducible refine r_in_normal ?_; refine r_then ?_
    refine r_region ?_
    refine o_q _ rfl rfl rfl (v_add rfl rfl rfl (by omega)) ?_
    refine o_q _ rfl rfl rfl (v_move rfl rfl) ?_
    refine o_nil ?_
    with_reducible refine r_then ?_
    exact r_next (k + 1) (by refine Imp.box_to b12 ((growK l d (k + 1)).flatMap encO) (by rw [growK_n (by omega) (by omega)]) ?_; exact r_here (by repeat (first | exact FSub.nil | refine FSub.cons rfl ?_)) SelMC.sel SubRC.sub) (by first | omega | (show _ + 1 ≤ _; omega)) (by first | omega | (show _ - (_ + 1) < _ - _; omega))
  ·
   refine r_exit ?_
   with_reducible refine r_then_exit ?_; refine r_then_exit ?_; refine r_in_here ?_; refine r_then ?_
   refine r_seq ?_
   refine r_region ?_
   refine o_q _ rfl rfl rfl (v_move rfl rfl) ?_
   refine o_q _ rfl rfl rfl (v_fieldAddr rfl Tryd.underlying77 inf74 rfl rfl rfl rfl) ?_
   refine o_st rfl inf74 rfl rfl rfl rfl rfl rfl rfl rfl ?_
   refine o_nil ?_
   with_reducible refine r_then ?_
   refine r_seq ?_
   obtain rfl : k = l.length := by omega
   refine Imp.box_to b2 [.slice (some ⟨b12, 0, none⟩) l.length l.length, i64 A] rfl ?_
   refine r_region ?_
   refine o_q _ rfl rfl rfl (v_ldW rfl Tryd.underlying77 rfl inf77 rfl rfl) ?_
   refine o_st rfl inf77 rfl rfl rfl rfl rfl rfl rfl rfl ?_
   refine o_nil ?_
   with_reducible refine r_then ?_
   refine r_ret ?_
   refine Imp.box_to b4 [.slice (some ⟨b12, 0, none⟩) l.length l.length, i64 A] rfl ?_
   refine Imp.sealB b12 ?_
   refine Imp.rowN (b := b12) (growK l d l.length) encO_len rfl ?_
   exact r_rete [] [rowD (some ⟨b12, 0, none⟩) 4 encO (growK l d l.length)] (Rd.one rfl (RdI.cellW Tryd.underlying77 rfl inf77 rfl rfl)) ⟨(some ⟨b12, 0, none⟩, l.length), by rw [growL, List.length_map], rfl, by rw [growK_all]⟩ SelMC.sel SubRC.sub
set_option maxHeartbeats 4000000 in
theorem clone_n (l : List Opn) (c : Nat) (hl : l.length ≤ 100) (h0 : l = []) : FnS Tryd.prog 99 [.slice none l.length c] [] [rowD none 4 encO l] (fun e M' R' => ∃ v : Value, e = .returned v ∧ M' = [ownZ v 116 4 encO l] ∧ R' = []) := by
 refine FnS.intro0 Tryd.call99 Tryd.func99 rfl Tryd.ntmps99 rfl ?_
 intro W M Rf
 refine r_seq ?_
 refine r_region ?_
 refine o_q _ rfl rfl rfl (v_assign rfl rfl) ?_
 refine o_nil ?_
 with_reducible refine r_then ?_
 refine r_seq ?_
 refine r_seq ?_
 refine r_region ?_
 refine o_q _ rfl rfl rfl (v_move rfl rfl) ?_
 refine o_q _ rfl rfl rfl (v_eqNil (b := true) rfl Tryd.underlying74 rfl rfl) ?_
 refine o_nil ?_
 with_reducible refine r_then ?_
 refine r_cond rfl (fun hc4 => ?_) (fun hc4 => ?_)
 ·
  refine r_seq ?_
  refine r_region ?_
  refine o_q _ rfl rfl rfl (v_assign rfl rfl) ?_
  refine o_nil ?_
  with_reducible refine r_then ?_
  refine r_ret ?_
  with_reducible refine r_then_ret ?_
  subst h0
  refine Imp.nilZ (enc := encO) (sz := 4) none 116 ?_
  exact r_rete [ownZ (.slice none 0 0) 116 4 encO []] [] (Rd.tmp rfl rfl) ⟨_, rfl, rfl, rfl⟩ SelMC.sel SubRC.sub
 ·
  (exfalso; revert hc4; decide)
set_option maxHeartbeats 4000000 in
theorem clone_y (ad : Addr) (l : List Opn) (c : Nat) (hl : l.length ≤ 100) : FnS Tryd.prog 99 [.slice (some ad) l.length c] [] [rowD (some ad) 4 encO l] (fun e M' R' => ∃ v : Value, e = .returned v ∧ M' = [ownZ v 116 4 encO l] ∧ R' = []) := by
 refine FnS.intro0 Tryd.call99 Tryd.func99 rfl Tryd.ntmps99 rfl ?_
 intro W M Rf
 refine r_seq ?_
 refine r_region ?_
 refine o_q _ rfl rfl rfl (v_assign rfl rfl) ?_
 refine o_nil ?_
 with_reducible refine r_then ?_
 refine r_seq ?_
 refine r_seq ?_
 refine r_region ?_
 refine o_q _ rfl rfl rfl (v_move rfl rfl) ?_
 refine o_q _ rfl rfl rfl (v_eqNil (b := false) rfl Tryd.underlying74 rfl rfl) ?_
 refine o_nil ?_
 with_reducible refine r_then ?_
 refine r_cond rfl (fun hc4 => ?_) (fun hc4 => ?_)
 ·
  (exfalso; revert hc4; decide)
 ·
  refine r_skip ?_
  with_reducible refine r_then ?_
  refine r_seq ?_
  refine r_region ?_
  refine o_lit0' rfl Tryd.underlying74 inf116 rfl rfl rfl (fun b5 => ?_)
  refine o_q _ rfl rfl rfl (v_move rfl rfl) ?_
  refine o_appN (sz := 4) rfl Tryd.underlying74 inf116 rfl rfl rfl encO_len rfl rfl rfl rfl rfl ⟨by omega, by decide⟩ (fun v7 => ?_)
  refine o_q _ rfl rfl rfl (v_assign rfl rfl) ?_
  refine o_nil ?_
  with_reducible refine r_then ?_
  refine r_ret ?_
  exact r_rete [ownZ v7 116 4 encO l] [] (Rd.tmp rfl rfl) ⟨_, rfl, rfl, rfl⟩ SelMC.sel SubRC.sub
theorem clone_s (l : List Opn) (oa : Option Addr) (c : Nat) (hl : l.length ≤ 100) : FnS Tryd.prog 99 [.slice oa l.length c] [] [rowD oa 4 encO l] (fun e M' R' => ∃ v : Value, e = .returned v ∧ M' = [ownZ v 116 4 encO l] ∧ R' = []) := by
  cases oa with
  | some ad => exact clone_y ad l c hl
  | none =>
    by_cases h0 : l = []
    · exact clone_n l c hl h0
    · refine ⟨Tryd.call99, fun W M Rf w hw => ?_⟩
      have h1 := hw.fact (φ := rowD none 4 encO l) (by simp)
      rcases h1 with h1 | ⟨b, off, C, T, fr, he, _⟩
      · exact absurd h1 h0
      · cases he
end Go.Proofs.YtpfgiednfjfdmaaDoor


namespace Go.Proofs.YtpfgiednfjfdmaaDoor
open Go.G Debt10
set_option maxRecDepth 1000000
attribute [local irreducible] G.ParO G.Fin
/-- How two numbers compare. -/
def cmpI (a b : Int) : Int := if a < b then -1 else if b < a then 1 else 0
theorem cmpI_l {a b : Int} (h : a < b) : Value.int .i64 (-1) = i64 (cmpI a b) := by unfold cmpI; rw [if_pos h]
theorem cmpI_g {a b : Int} (h : ¬ a < b) (h2 : b < a) : Value.int .i64 1 = i64 (cmpI a b) := by unfold cmpI; rw [if_neg h, if_pos h2]
theorem cmpI_e {a b : Int} (h : ¬ a < b) (h2 : ¬ b < a) : Value.int .i64 0 = i64 (cmpI a b) := by unfold cmpI; rw [if_neg h, if_neg h2]
theorem cmpI_ge {a b : Int} (h : b ≤ a) : ∃ z : Int, cmpI a b = z ∧ 0 ≤ z := ⟨_, rfl, by unfold cmpI; split; omega; split <;> omega⟩
set_option maxHeartbeats 4000000 in
theorem isNaN_v (a : Int) : FnV Tryd.prog 113 [i64 a] [] (.bool false) := by
 refine FnV.intro Tryd.call113 Tryd.func113 rfl Tryd.ntmps113 rfl ?_
 intro W M Rf
 refine r_seq ?_
 refine r_region ?_
 refine o_q _ rfl rfl rfl (v_assign rfl rfl) ?_
 refine o_nil ?_
 with_reducible refine r_then ?_
 refine r_seq ?_
 refine r_region ?_
 refine o_q _ rfl rfl rfl (v_move rfl rfl) ?_
 refine o_q _ rfl rfl rfl (v_move rfl rfl) ?_
 refine o_q _ rfl rfl rfl (v_neq rfl rfl rfl) ?_
 refine o_q _ rfl rfl rfl (v_assign rfl rfl) ?_
 refine o_nil ?_
 with_reducible refine r_then ?_
 refine r_ret ?_
 exact r_retv2 (Rd.tmp rfl rfl) (congrArg Value.bool (decide_eq_false (by omega))) SelMC.sel SubRC.sub
set_option maxHeartbeats 4000000 in
theorem compare_v (a b : Int) : FnV Tryd.prog 102 [i64 a, i64 b] [] (i64 (cmpI a b)) := by
 refine FnV.intro Tryd.call102 Tryd.func102 rfl Tryd.ntmps102 rfl ?_
 intro W M Rf
 refine r_seq ?_
 refine r_region ?_
 refine o_q _ rfl rfl rfl (v_assign rfl rfl) ?_
 refine o_nil ?_
 with_reducible refine r_then ?_
 refine r_seq ?_
 refine r_region ?_
 refine o_q _ rfl rfl rfl (v_move rfl rfl) ?_
 refine o_q _ rfl rfl rfl (OpQ.fn (isNaN_v _) rfl rfl SubRC.sub) ?_
 refine o_q _ rfl rfl rfl (v_assign rfl rfl) ?_
 refine o_nil ?_
 with_reducible refine r_then ?_
 refine r_seq ?_
 refine r_region ?_
 refine o_q _ rfl rfl rfl (v_move rfl rfl) ?_
 refine o_q _ rfl rfl rfl (OpQ.fn (isNaN_v _) rfl rfl SubRC.sub) ?_
 refine o_q _ rfl rfl rfl (v_assign rfl rfl) ?_
 refine o_nil ?_
 with_reducible refine r_then ?_
 refine r_seq ?_
 refine r_seq ?_
 refine r_region ?_
 refine o_q _ rfl rfl rfl (v_move rfl rfl) ?_
 refine o_nil ?_
 with_reducible refine r_then ?_
 refine r_cond rfl (fun hc11 => ?_) (fun hc11 => ?_)
 ·
  (exfalso; revert hc11; decide)
 ·
  refine r_skip ?_
  with_reducible refine r_then ?_
  refine r_seq ?_
  refine r_seq ?_
  refine r_region ?_
  refine o_q _ rfl rfl rfl (v_move rfl rfl) ?_
  refine o_nil ?_
  with_reducible refine r_then ?_
  refine r_cond rfl (fun hc13 => ?_) (fun hc13 => ?_)
  ·
   (exfalso; revert hc13; decide)
  ·
   refine r_skip ?_
   with_reducible refine r_then ?_
   refine r_seq ?_
   refine r_seq ?_
   refine r_region ?_
   refine o_q _ rfl rfl rfl (v_move rfl rfl) ?_
   refine o_q _ rfl rfl rfl (v_move rfl rfl) ?_
   refine o_q _ rfl rfl rfl (v_lss rfl rfl rfl) ?_
   refine o_nil ?_
   with_reducible refine r_then ?_
   refine r_condd rfl (fun hc16 => ?_) (fun hc16 => ?_)
   ·
    refine r_seq ?_
    refine r_region ?_
    refine o_q _ rfl rfl rfl (v_assign rfl rfl) ?_
    refine o_nil ?_
    with_reducible refine r_then ?_
    refine r_ret ?_
    with_reducible refine r_then_ret ?_
    exact r_retv2 (Rd.tmp rfl rfl) (cmpI_l (by omega)) SelMC.sel SubRC.sub
   ·
    refine r_skip ?_
    with_reducible refine r_then ?_
    refine r_seq ?_
    refine r_seq ?_
    refine r_region ?_
    refine o_q _ rfl rfl rfl (v_move rfl rfl) ?_
    refine o_q _ rfl rfl rfl (v_move rfl rfl) ?_
    refine o_q _ rfl rfl rfl (v_gtr rfl rfl rfl) ?_
    refine o_nil ?_
    with_reducible refine r_then ?_
    refine r_condd rfl (fun hc19 => ?_) (fun hc19 => ?_)
    ·
     refine r_seq ?_
     refine r_region ?_
     refine o_q _ rfl rfl rfl (v_assign rfl rfl) ?_
     refine o_nil ?_
     with_reducible refine r_then ?_
     refine r_ret ?_
     with_reducible refine r_then_ret ?_
     exact r_retv2 (Rd.tmp rfl rfl) (cmpI_g (by omega) (by omega)) SelMC.sel SubRC.sub
    ·
     refine r_skip ?_
     with_reducible refine r_then ?_
     refine r_seq ?_
     refine r_region ?_
     refine o_q _ rfl rfl rfl (v_assign rfl rfl) ?_
     refine o_nil ?_
     with_reducible refine r_then ?_
     refine r_ret ?_
     exact r_retv2 (Rd.tmp rfl rfl) (cmpI_e (by omega) (by omega)) SelMC.sel SubRC.sub
set_option maxHeartbeats 4000000 in
theorem day1_v (x y : Opn) : FnV Tryd.prog 101 [.agg (encO x).toArray, .agg (encO y).toArray] [] (i64 (cmpI x.day y.day)) := by
 refine FnV.intro Tryd.call101 Tryd.func101 rfl Tryd.ntmps101 rfl ?_
 intro W M Rf
 refine r_seq ?_
 refine r_region ?_
 refine o_boxA rfl rfl rfl rfl rfl (fun b2 => ?_)
 refine o_boxA rfl rfl rfl rfl rfl (fun b3 => ?_)
 refine o_q _ rfl rfl rfl (v_assign rfl rfl) ?_
 refine o_nil ?_
 with_reducible refine r_then ?_
 refine r_seq ?_
 refine Imp.box_to b2 (encO x) rfl ?_
 refine Imp.box_to b3 (encO y) rfl ?_
 refine r_region ?_
 refine o_q _ rfl rfl rfl (v_fieldAddr rfl Tryd.underlying116 inf3 rfl rfl rfl rfl) ?_
 refine o_q _ rfl rfl rfl (v_ld1 rfl Tryd.underlying3 rfl rfl rfl) ?_
 refine o_q _ rfl rfl rfl (v_fieldAddr rfl Tryd.underlying116 inf3 rfl rfl rfl rfl) ?_
 refine o_q _ rfl rfl rfl (v_ld1 rfl Tryd.underlying3 rfl rfl rfl) ?_
 refine o_q _ rfl rfl rfl (OpQ.fn (compare_v _ _) rfl rfl SubRC.sub) ?_
 refine o_q _ rfl rfl rfl (v_assign rfl rfl) ?_
 refine o_nil ?_
 with_reducible refine r_then ?_
 refine r_ret ?_
 exact r_retv2 (Rd.tmp rfl rfl) rfl SelMC.sel SubRC.sub
set_option maxHeartbeats 4000000 in
theorem insertion_v (l : List Opn) (oa : Option Addr) (c : Nat) (hl : l.length ≤ 100) (hs : SortedO l) : FnV Tryd.prog 116 [.slice oa l.length c, i64 0, i64 l.length, .func (.func 101) #[] #[]] [rowD oa 4 encO l] (.tuple #[]) := by
 refine FnV.intro Tryd.call116 Tryd.func116 rfl Tryd.ntmps116 rfl ?_
 intro W M Rf
 refine r_seq ?_
 refine r_region ?_
 refine o_q _ rfl rfl rfl (v_move rfl rfl) ?_
 refine o_q _ rfl rfl rfl (v_add rfl rfl rfl (by omega)) ?_
 refine o_q _ rfl rfl rfl (v_assign rfl rfl) ?_
 refine o_nil ?_
 with_reducible refine r_then ?_
 refine r_block ?_
 refine r_loop (ι := Nat) (fun i => 1 ≤ i ∧ (i ≤ l.length ∨ i = 1)) (fun i => [(0, .slice oa l.length c), (1, i64 0), (2, i64 l.length), (3, .func (.func 101) #[] #[]), (8, i64 (i : Nat))]) (fun i => M) (fun i => [rowD oa 4 encO l] ++ Rf) (fun i => l.length + 1 - i) 1 ?_ ?_ ?_
 ·
  exact r_here (by repeat (first | exact FSub.nil | refine FSub.cons rfl ?_)) SelMC.sel SubRC.sub
 ·
  omega
 ·
  rintro i hI0
  refine r_seq ?_
  refine r_seq ?_
  refine r_region ?_
  refine o_q _ rfl rfl rfl (v_move rfl rfl) ?_
  refine o_q _ rfl rfl rfl (v_move rfl rfl) ?_
  refine o_q _ rfl rfl rfl (v_lss rfl rfl rfl) ?_
  refine o_nil ?_
  with_reducible refine r_then ?_
  refine r_condd rfl (fun hc14 => ?_) (fun hc14 => ?_)
  ·
   refine r_skip ?_
   with_reducible refine r_then ?_
   refine r_seq ?_
   refine r_block ?_
   refine r_seq ?_
   refine r_region ?_
   refine o_q _ rfl rfl rfl (v_move rfl rfl) ?_
   refine o_q _ rfl rfl rfl (v_assign rfl rfl) ?_
   refine o_nil ?_
   with_reducible refine r_then ?_
   refine r_block ?_
   refine r_loop (ι := Nat) (fun j => j = i) (fun j => [(0, .slice oa l.length c), (1, i64 0), (2, i64 l.length), (3, .func (.func 101) #[] #[]), (8, i64 (i : Nat)), (9, i64 (j : Nat))]) (fun j => M) (fun j => [rowD oa 4 encO l] ++ Rf) (fun j => 0) i ?_ ?_ ?_
   ·
    exact r_here (by repeat (first | exact FSub.nil | refine FSub.cons rfl ?_)) SelMC.sel SubRC.sub
   ·
    rfl
   ·
    rintro j hI1
    have hij := hI1.symm
    subst hij
    refine r_seq ?_
    refine r_seq ?_
    have hsi := hs (i - 1)
    rw [show i - 1 + 1 = i from by omega] at hsi
    obtain ⟨z, hz, hz0⟩ := cmpI_ge (a := (l.getD i default).day) (b := (l.getD (i - 1) default).day) (by have := hsi (by omega); omega)
    refine r_region_q mixed (by kernel_rfl) ?_
    refine q_q _ rfl rfl rfl (v_move rfl rfl) ?_
    refine q_q _ rfl rfl rfl (v_move rfl rfl) ?_
    refine q_q _ rfl rfl rfl (v_true (v_gtr rfl rfl rfl) (by omega)) ?_
    all_goals
     refine q_q _ rfl rfl rfl (v_move rfl rfl) ?_
     refine q_g _ rfl rfl rfl rfl (v_move rfl rfl) ?_
     refine q_g _ rfl rfl rfl rfl (v_move rfl rfl) ?_
     refine q_g _ rfl rfl rfl rfl (v_move rfl rfl) ?_
     refine q_g _ rfl rfl rfl rfl (v_indexAddrSn rfl Tryd.underlying74 inf116 rfl rfl rfl (by omega) rfl) ?_
     refine q_g _ rfl rfl rfl rfl (v_loadEN (us := encO (l.getD i default)) rfl Tryd.underlying116 rfl inf116 rfl (by omega) rfl rfl rfl) ?_
     refine q_g _ rfl rfl rfl rfl (v_move rfl rfl) ?_
     refine q_g _ rfl rfl rfl rfl (v_move rfl rfl) ?_
     refine q_g _ rfl rfl rfl rfl (v_cast (v := i64 ((i - 1 : Nat) : Int)) (v_sub rfl rfl rfl (by omega)) (congrArg (Value.int .i64) (by omega))) ?_
     refine q_g _ rfl rfl rfl rfl (v_indexAddrSn rfl Tryd.underlying74 inf116 rfl rfl rfl (by omega) rfl) ?_
     refine q_g _ rfl rfl rfl rfl (v_loadEN (us := encO (l.getD (i - 1) default)) rfl Tryd.underlying116 rfl inf116 rfl (by omega) rfl rfl rfl) ?_
     refine q_g _ rfl rfl rfl rfl (v_cast (v := i64 z) (OpQ.call (day1_v (l.getD i default) (l.getD (i - 1) default)) rfl [] [] rfl rfl rfl SubRC.sub) (congrArg (Value.int .i64) hz)) ?_
     refine q_g _ rfl rfl rfl rfl (v_false (v_lss rfl rfl rfl) (by omega)) ?_
     all_goals
      refine q_q _ rfl rfl rfl (v_pick_t rfl rfl rfl) ?_
      refine q_nil ?_
      with_reducible refine r_then ?_
      refine r_cond rfl (fun hc34 => ?_) (fun hc34 => ?_)
      ·
       (exfalso; revert hc34; decide)
      ·
       refine r_exit ?_
       with_reducible refine r_then_exit ?_; refine r_then_exit ?_; refine r_in_here ?_; refine r_in_normal ?_; refine r_then ?_
       refine r_region ?_
       refine o_q _ rfl rfl rfl (v_move rfl rfl) ?_
       refine o_q _ rfl rfl rfl (v_add rfl rfl rfl (by omega)) ?_
       refine o_q _ rfl rfl rfl (v_assign rfl rfl) ?_
       refine o_nil ?_
       with_reducible refine r_then ?_
       refine r_next (i + 1) ?_ ?_ ?_
       ·
        exact r_here (by repeat (first | exact FSub.nil | refine FSub.cons rfl ?_)) SelMC.sel SubRC.sub
       ·
        omega
       ·
        omega
  ·
   refine r_exit ?_
   with_reducible refine r_then_exit ?_; refine r_then_exit ?_; refine r_in_here ?_
   exact r_endv (Rd.none rfl) SelMC.sel SubRC.sub
set_option maxHeartbeats 4000000 in
theorem stable_v (l : List Opn) (oa : Option Addr) (c : Nat) (hl : l.length ≤ 10) (hs : SortedO l) : FnV Tryd.prog 112 [.slice oa l.length c, i64 l.length, .func (.func 101) #[] #[]] [rowD oa 4 encO l] (.tuple #[]) := by
 refine FnV.intro Tryd.call112 Tryd.func112 rfl Tryd.ntmps112 rfl ?_
 intro W M Rf
 refine r_seq ?_
 refine r_region ?_
 refine o_q _ rfl rfl rfl (v_assign rfl rfl) ?_
 refine o_nil ?_
 with_reducible refine r_then ?_
 refine r_seq ?_
 refine r_region ?_
 refine o_q _ rfl rfl rfl (v_move rfl rfl) ?_
 refine o_q _ rfl rfl rfl (v_assign rfl rfl) ?_
 refine o_q _ rfl rfl rfl (v_assign rfl rfl) ?_
 refine o_nil ?_
 with_reducible refine r_then ?_
 refine r_seq ?_
 refine r_block ?_
 refine r_loop (ι := Unit) (fun uu => True) (fun uu => [(0, .slice oa l.length c), (1, i64 l.length), (2, .func (.func 101) #[] #[]), (6, i64 20), (7, i64 0), (8, i64 20)]) (fun uu => M) (fun uu => [rowD oa 4 encO l] ++ Rf) (fun uu => 0) () ?_ ?_ ?_
 ·
  exact r_here (by repeat (first | exact FSub.nil | refine FSub.cons rfl ?_)) SelMC.sel SubRC.sub
 ·
  trivial
 ·
  rintro uu hI0
  refine r_seq ?_
  refine r_seq ?_
  refine r_region ?_
  refine o_q _ rfl rfl rfl (v_move rfl rfl) ?_
  refine o_q _ rfl rfl rfl (v_move rfl rfl) ?_
  refine o_q _ rfl rfl rfl (v_leq rfl rfl rfl) ?_
  refine o_nil ?_
  with_reducible refine r_then ?_
  refine r_condd rfl (fun hc13 => ?_) (fun hc13 => ?_)
  ·
   (exfalso; omega)
  ·
   refine r_exit ?_
   with_reducible refine r_then_exit ?_; refine r_then_exit ?_; refine r_in_here ?_; refine r_then ?_
   refine r_seq ?_
   refine r_region ?_
   refine o_q _ rfl rfl rfl (v_move rfl rfl) ?_
   refine o_q _ rfl rfl rfl (v_move rfl rfl) ?_
   refine o_q _ rfl rfl rfl (v_move rfl rfl) ?_
   refine o_q _ rfl rfl rfl (v_move rfl rfl) ?_
   refine o_q _ rfl rfl rfl (OpQ.fn (insertion_v l oa c (by omega) hs) rfl rfl SubRC.sub) ?_
   refine o_nil ?_
   with_reducible refine r_then ?_
   refine r_block ?_
   refine r_loop (ι := Unit) (fun uu => True) (fun uu => [(0, .slice oa l.length c), (1, i64 l.length), (2, .func (.func 101) #[] #[]), (6, i64 20)]) (fun uu => M) (fun uu => [rowD oa 4 encO l] ++ Rf) (fun uu => 0) () ?_ ?_ ?_
   ·
    exact r_here (by repeat (first | exact FSub.nil | refine FSub.cons rfl ?_)) SelMC.sel SubRC.sub
   ·
    trivial
   ·
    rintro uu hI1
    refine r_seq ?_
    refine r_seq ?_
    refine r_region ?_
    refine o_q _ rfl rfl rfl (v_move rfl rfl) ?_
    refine o_q _ rfl rfl rfl (v_move rfl rfl) ?_
    refine o_q _ rfl rfl rfl (v_lss rfl rfl rfl) ?_
    refine o_nil ?_
    with_reducible refine r_then ?_
    refine r_condd rfl (fun hc30 => ?_) (fun hc30 => ?_)
    ·
     (exfalso; omega)
    ·
     refine r_exit ?_
     with_reducible refine r_then_exit ?_; refine r_then_exit ?_; refine r_in_here ?_
     exact r_endv (Rd.none rfl) SelMC.sel SubRC.sub
set_option maxHeartbeats 4000000 in
theorem sort_v (l : List Opn) (oa : Option Addr) (c : Nat) (hl : l.length ≤ 10) (hs : SortedO l) : FnV Tryd.prog 100 [.slice oa l.length c, .func (.func 101) #[] #[]] [rowD oa 4 encO l] (.tuple #[]) := by
 refine FnV.intro Tryd.call100 Tryd.func100 rfl Tryd.ntmps100 rfl ?_
 intro W M Rf
 refine r_region ?_
 refine o_q _ rfl rfl rfl (v_move rfl rfl) ?_
 refine o_q _ rfl rfl rfl (v_move rfl rfl) ?_
 refine o_q _ rfl rfl rfl (v_len rfl rfl Tryd.underlying74 rfl) ?_
 refine o_q _ rfl rfl rfl (v_move rfl rfl) ?_
 refine o_q _ rfl rfl rfl (OpQ.fn (stable_v l oa c hl hs) rfl rfl SubRC.sub) ?_
 refine o_nil ?_
 exact r_endv (Rd.none rfl) SelMC.sel SubRC.sub
end Go.Proofs.YtpfgiednfjfdmaaDoor

