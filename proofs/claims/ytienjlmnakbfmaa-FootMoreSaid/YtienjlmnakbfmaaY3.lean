/- Part 3 of 4 of what the proofs of this seat stand on: a small logic for walks, what the functions come to, and the walks themselves. No condition of its own. -/
import Derived.Test.YtienjlmnakbfmaaY2
import Derived.Test.YtienjlmnakbfmaaY1
import Derived.Laws.MakeOwn
import Derived.Laws.CopyRow
import Derived.ChangeKeysEq
import Derived.Maps.Keyed
set_option linter.unusedVariables false
set_option linter.unusedSimpArgs false
namespace Foot4
open Go Go.G
@[reducible] def valWay (w : Way) : Value := .agg #[i64 w.sods, i64 w.plan.a, i64 w.plan.b, i64 w.plan.c]
@[reducible] def keyL (hp : Nat) (B : List Int) : Value := .agg (i64 hp :: B.map iv).toArray
def okW (F : Work) (men : Int) (kv v : Value) : Prop := ∀ hp r B, hp + r = F.heaps.length → kv = keyL hp B → v = valWay (bestW F men r B)
theorem map_iv_inj : ∀ {A B : List Int}, A.map iv = B.map iv → A = B
  | [], [], _ => rfl
  | [], _ :: _, h => by simp at h
  | _ :: _, [], h => by simp at h
  | a :: A, b :: B, h => by
    simp only [List.map_cons, List.cons.injEq, iv, Value.int.injEq, true_and] at h
    rw [h.1, map_iv_inj h.2]
theorem keyL_inj {hp hq : Nat} {A B : List Int} (h : keyL hp A = keyL hq B) : hp = hq ∧ A = B := by
  have h2 : i64 hp :: A.map iv = i64 hq :: B.map iv := congrArg Array.toList (Value.agg.inj h)
  simp only [List.cons.injEq, Value.int.injEq, true_and] at h2
  exact ⟨by omega, map_iv_inj h2.2⟩
theorem okW_mk {F : Work} {men : Int} {hp r : Nat} {B : List Int} {w : Way} (h : hp + r = F.heaps.length) (e : w = bestW F men r B) : okW F men (keyL hp B) (valWay w) := by
  intro hq q C h1 h2
  obtain ⟨rfl, rfl⟩ := keyL_inj h2
  obtain rfl : r = q := by omega
  rw [e]
/-- A slice of slices, the inner ones known. -/
abbrev Inner := Option Addr × Nat × Nat
def encO (x : Inner) : List Value := [.slice x.1 x.2.1 x.2.2]
def allRows (F : Work) (xs : List Inner) : Fact := fun V => ∀ h, h < xs.length → rowD (xs.getD h default).1 3 encT (sureF selW F h) V
def Rows (F : Work) (xs : List Inner) : Prop := xs.length ≤ F.heaps.length ∧ ∀ h, h < xs.length → (xs.getD h default).2.1 = (sureF selW F h).length
def waysT (F : Work) (men : Int) (h : Nat) (B : List Int) (rec : List Int → Int) (k : Nat) : List Way := waysW F men h B rec ((sureF selW F h).take k)
section
variable {F : Work} {men : Int} {h : Nat} {B : List Int} {rec : List Int → Int} {k : Nat} {p : T3}
theorem waysT_0 : waysT F men h B rec 0 = [⟨rec B, noneT⟩] := by simp [waysT, waysW]
theorem take_getD {α : Type} [Inhabited α] {l : List α} {k : Nat} (hk : k < l.length) : l.take (k + 1) = l.take k ++ [l.getD k default] := by
  rw [List.take_add_one]
  simp [hk]
theorem waysT_yes (hk : k < (sureF selW F h).length) (hp : (sureF selW F h).getD k default = p) (hf : ¬ ∃ j, j < [p.a, p.b, p.c].length ∧ men ≤ B.getD ([p.a, p.b, p.c].getD j default).toNat 0) :
    waysT F men h B rec k ++ [⟨(F.heaps.getD h default).sods + rec (with_ B p), p⟩] = waysT F men h B rec (k + 1) := by
  have h1 : freeB men B p = true := by
    simp only [freeB, List.any_cons, List.any_nil, Bool.or_false, Bool.not_eq_true', Bool.or_eq_false_iff, decide_eq_false_iff_not]
    exact ⟨fun x => hf ⟨0, by simp, x⟩, fun x => hf ⟨1, by simp, x⟩, fun x => hf ⟨2, by simp, x⟩⟩
  unfold waysT waysW
  rw [take_getD hk, hp]
  simp [h1]
theorem waysT_no (hk : k < (sureF selW F h).length) (hp : (sureF selW F h).getD k default = p) (hf : ∃ j, j < [p.a, p.b, p.c].length ∧ men ≤ B.getD ([p.a, p.b, p.c].getD j default).toNat 0) :
    waysT F men h B rec k = waysT F men h B rec (k + 1) := by
  have h1 : freeB men B p = false := by
    obtain ⟨j, hj, hx⟩ := hf
    simp only [List.length_cons, List.length_nil] at hj
    simp only [freeB, List.any_cons, List.any_nil, Bool.or_false, Bool.not_eq_false', Bool.or_eq_true, decide_eq_true_eq]
    obtain rfl | rfl | rfl : j = 0 ∨ j = 1 ∨ j = 2 := by omega
    · exact .inl hx
    · exact .inr (.inl hx)
    · exact .inr (.inr hx)
  unfold waysT waysW
  rw [take_getD hk, hp]
  simp [h1]
theorem waysT_all : waysT F men h B rec (sureF selW F h).length = waysW F men h B rec (sureF selW F h) := by
  unfold waysT; rw [List.take_length]
theorem waysT_le (hl : F.rain.length ≤ 8) : (waysT F men h B rec k).length ≤ 1001 := by
  have h1 := List.length_filter_le (freeB men B) ((sureF selW F h).take k)
  have h2 := List.length_take_le' k (sureF selW F h)
  have h3 := sureF_le (sel := selW) (F := F) (heap := h) hl
  unfold waysT waysW
  simp only [List.length_cons, List.length_map]
  omega
end
theorem bestW_eq {F : Work} {men : Int} {hp r : Nat} {B : List Int} (h : hp + (r + 1) = F.heaps.length) : wayL (waysW F men hp B (fun C => (bestW F men r C).sods) (sureF selW F hp)) = bestW F men (r + 1) B := by
  obtain rfl : hp = F.heaps.length - (r + 1) := by omega
  rfl
theorem encW_len (w : Way) : (encW w).length = 4 := rfl
theorem take8 {x : Value} {B : List Int} (h : B.length = 8) : ((x :: B.map iv).drop 1).take 8 = B.map iv := by
  simp [List.take_of_length_le, h]
theorem sure_day {sel : Int → Int → Int} {F : Work} {h k : Nat} (hn : F.rain.length ≤ 8) (hk : k < (sureF sel F h).length) : ∀ j, j < 3 → 0 ≤ ((sureF sel F h).getD k default).at j ∧ ((sureF sel F h).getD k default).at j ≤ 7 := by
  intro j hj
  have hm : (sureF sel F h).getD k default ∈ sureF sel F h := by
    have e : (sureF sel F h)[k]? = some ((sureF sel F h).getD k default) := by simp [hk]
    exact List.mem_of_getElem? e
  have := whole_days (List.mem_filter.1 hm).1 j hj
  omega
theorem row_of_box {b : Nat} {x y : Int} {V : View} (h : boxF b 3 [i64 x, i64 y] V) : rowD (some ⟨b, 0, none⟩) 1 (fun x : Int => [i64 x]) [x, y] V :=
  .inr ⟨b, 0, _, 3, (0, 0), rfl, h, fun i j hi hj => by
    obtain rfl : j = 0 := by omega
    simp only [List.length_cons, List.length_nil] at hi
    obtain rfl | rfl : i = 0 ∨ i = 1 := by omega
    · rfl
    · rfl⟩
end Foot4


namespace Go.Proofs.Ytienjlmnakbfmaa
open Go.G Foot4
set_option maxRecDepth 1000000
theorem laid0 : laidOutB Try.prog = true := by kernel_rfl
theorem keyLaw115 : WideMaps.KeyLaw Try.prog 115 := deep_law_gate laid0 (by decide +kernel) (by decide +kernel) (by kernel_rfl) (by kernel_rfl)
theorem kl3 (d : Nat) {x : Int} (h : 0 ≤ x ∧ x ≤ 1000) : Try.prog.keyLits (d + 1) 3 [i64 x] = some [.int .i64 x] := by
  have hw : (Lit.int .i64 x).wf = true := by
    have m1 : IntKind.i64.min = -9223372036854775808 := rfl
    have m2 : IntKind.i64.max = 9223372036854775807 := rfl
    simp only [Lit.wf]
    simp
    omega
  unfold Program.keyLits
  rw [Try.underlying3]
  simp [hw]
theorem key_of (hp : Nat) (B : List Int) (hp1 : hp ≤ 3) (hB : B.length = 8) (hs : Small B 1000) : ∃ l, keyOf Try.prog 115 (keyL hp B) = some l := by
  match B, hB with
  | [a, b, c, d, e, f, g, h], _ =>
    have h1 := Try.underlying115
    unfold keyOf
    rw [h1]
    have h2 : Try.prog.keyType 115 = true := by kernel_rfl
    have h3 : (keyL hp [a, b, c, d, e, f, g, h]).formed Try.prog 115 = true := by kernel_rfl
    have c115 : Try.prog.cellsOf 115 = 9 := by kernel_rfl
    have c107 : Try.prog.cellsOf 107 = 8 := by kernel_rfl
    have c3 : Try.prog.cellsOf 3 = 1 := by kernel_rfl
    have ha := hs 0; have hb := hs 1; have hc := hs 2; have hd := hs 3; have he := hs 4; have hf := hs 5; have hg := hs 6; have hh := hs 7
    simp only [List.getD_cons_zero, List.getD_cons_succ] at ha hb hc hd he hf hg hh
    have e107 : ∀ m, Try.prog.keyLits (m + 2) 107 [i64 a, i64 b, i64 c, i64 d, i64 e, i64 f, i64 g, i64 h] = some [.int .i64 a, .int .i64 b, .int .i64 c, .int .i64 d, .int .i64 e, .int .i64 f, .int .i64 g, .int .i64 h] := by
      intro m
      unfold Program.keyLits
      rw [Try.underlying107]
      simp [c107, c3, List.range, List.range.loop, kl3, ha, hb, hc, hd, he, hf, hg, hh]
    have e115 : Try.prog.keyLits (Try.prog.types.size + 1) 115 (keyL hp [a, b, c, d, e, f, g, h]).cells.toList = some [.int .i64 hp, .int .i64 a, .int .i64 b, .int .i64 c, .int .i64 d, .int .i64 e, .int .i64 f, .int .i64 g, .int .i64 h] := by
      have hsz : Try.prog.types.size + 1 = 167 + 3 := by kernel_rfl
      rw [hsz]
      unfold Program.keyLits
      rw [Try.underlying115]
      simp [c115, c107, c3, Value.cells, kl3 (x := (hp : Int)) _ (by omega), e107, iv]
    rw [e115, h2, h3]
    exact ⟨_, rfl⟩
end Go.Proofs.Ytienjlmnakbfmaa


namespace Go.Proofs.Ytienjlmnakbfmaa
open Go.G Foot4
set_option maxRecDepth 1000000
attribute [local irreducible] G.ParO G.Fin
theorem mk115 {W : World} {n : Nat} {L : Tm} {M : List Res} {R : List Fact} {o : Oper} {x y : Operand} {hp : Nat} {B : List Int} (ho : o.op = .build 115 #[(0, x), (1, y)]) (hx : ev L x = some (i64 ((hp : Int) + 1))) (hy : ev L y = some (.agg (B.map iv).toArray)) (hB : B.length = 8) : OpQ Try.prog W n L M R o (keyL (hp + 1) B) := by
  have hc : CatC [i64 ((hp : Int) + 1), .agg (B.map iv).toArray] (i64 ((hp : Int) + 1) :: (B.map iv ++ [])) := inferInstance
  refine v_cast (v_bS (ps := [(0, x), (1, y)]) (vs := [i64 ((hp : Int) + 1), .agg (B.map iv).toArray]) ho Try.underlying115 inf115 plt115 rfl ?_ rfl ?_ ?_) (by simp [keyL])
  · show evs L [x, y] = _
    simp only [evs, hx, hy]
  · refine ⟨rfl, ?_, trivial⟩
    have : (Value.agg (B.map iv).toArray).cells.size = 8 := by simp [Value.cells, hB]
    rw [this]; rfl
  · simp [hB]; rfl
theorem hab_of {a b c : Int} (h : ∀ j, j < 3 → 0 ≤ (⟨a, b, c⟩ : T3).at j ∧ (⟨a, b, c⟩ : T3).at j ≤ 7) : ∀ j, j < [a, b, c].length → 0 ≤ [a, b, c].getD j default ∧ [a, b, c].getD j default ≤ 7 := by
  intro j hj
  simp only [List.length_cons, List.length_nil] at hj
  obtain rfl | rfl | rfl : j = 0 ∨ j = 1 ∨ j = 2 := by omega
  · exact h 0 (by omega)
  · exact h 1 (by omega)
  · exact h 2 (by omega)
theorem total2_v (b : Nat) (x y : Int) (hx : -10000 ≤ x ∧ x ≤ 10000) (hy : -10000 ≤ y ∧ y ≤ 10000) : FnV Try.prog 98 [.slice (some ⟨b, 0, none⟩) 2 2] [boxF b 3 [i64 x, i64 y]] (i64 (x + y)) := by
  have h := total_v [x, y] (some ⟨b, 0, none⟩) 2 (by simp) (fun k => by
    match k with
    | 0 => exact hx
    | 1 => exact hy
    | k + 2 => show -10000 ≤ (0 : Int) ∧ (0 : Int) ≤ 10000; omega)
  have e : sumTo [x, y] [x, y].length = x + y := by simp [sumTo]
  rw [e] at h
  exact h.pre (fun V hV φ hφ => by
    have : φ = rowD (some ⟨b, 0, none⟩) 1 (fun x : Int => [i64 x]) [x, y] := by simpa using hφ
    subst this
    exact row_of_box (hV _ (by simp)))
set_option maxHeartbeats 4000000 in
theorem best1_0 (F : Work) (ro ho : Option Addr) (rc hc : Nat) (fb : Nat) (men : Int) (hg : GoodF F) (b1 b2 b3 b4 b5 b6 mb : Nat) (sa : Option Addr) (sc : Nat) (xs : List Inner) (hxl : xs.length = F.heaps.length) (hR : Foot4.Rows F xs) (hp : Nat) (hpr : hp + 0 = F.heaps.length) (B : List Int) (hB : B.length = 8) (hs : Small B (3 * hp)) : FnM Try.prog 96 [keyL hp B, pt b1 0, pt b2 0, pt b3 0, pt b4 0, pt b5 0, pt b6 0] (memo Try.prog 115 (okW F men) mb) [boxF b1 81 [pt fb 0], boxF b2 141 [.map (some mb)], boxF b3 112 [.func (.func 96) #[] #[pt b1 0, pt b2 0, pt b3 0, pt b4 0, pt b5 0, pt b6 0]], boxF b4 27 [i64 (-1), i64 (-1), i64 (-1)], boxF b5 140 [.slice sa xs.length sc], boxF b6 3 [i64 men], rowD sa 1 encO xs, allRows F xs, boxF fb 126 (cellsF F ro rc ho hc), rowD ro 2 encS F.rain, rowD ho 3 encH F.heaps] (fun u => u = valWay (bestW F men 0 B)) := by
  refine FnM.intro Try.call96 Try.func96 rfl Try.ntmps96 rfl ?_
  intro W M Rf
  refine r_seq ?_
  refine r_region ?_
  refine o_boxA rfl rfl rfl rfl rfl (fun b7 => ?_)
  refine o_alloc rfl inf117 rfl rfl rfl rfl rfl (fun b8 => ?_)
  refine o_nil ?_
  with_reducible refine r_then ?_
  refine r_seq ?_
  refine r_seq ?_
  refine Imp.sealB b7 ?_
  refine r_region_q mixed (by kernel_rfl) ?_
  refine q_q _ rfl rfl rfl (v_fieldAddr rfl Try.underlying115 inf3 rfl rfl rfl rfl) ?_
  refine q_q _ rfl rfl rfl (v_lf1 rfl Try.underlying3 rfl rfl rfl) ?_
  refine q_q _ rfl rfl rfl (v_lf1 rfl Try.underlying81 rfl rfl rfl) ?_
  refine q_q _ rfl rfl rfl (v_nilCheck rfl rfl) ?_
  refine q_q _ rfl rfl rfl (v_fieldAddr rfl Try.underlying126 inf26 rfl rfl rfl rfl) ?_
  refine q_q _ rfl rfl rfl (v_fieldAddr rfl Try.underlying26 inf24 rfl rfl rfl rfl) ?_
  refine q_q _ rfl rfl rfl (v_lf1 rfl Try.underlying24 rfl rfl rfl) ?_
  refine q_q _ rfl rfl rfl (v_len rfl rfl Try.underlying24 rfl) ?_
  refine q_q _ rfl rfl rfl (v_eql rfl rfl rfl) ?_
  refine q_nil ?_
  with_reducible refine r_then ?_
  refine r_condd rfl (fun hc24 => ?_) (fun hc24 => ?_)
  ·
    refine r_seq ?_
    refine r_region ?_
    refine o_q _ rfl rfl rfl (v_bS0 rfl Try.underlying117 inf117 plt117 rfl rfl) ?_
    refine o_st rfl inf117 rfl rfl rfl rfl rfl rfl rfl rfl ?_
    refine o_nil ?_
    with_reducible refine r_then ?_
    refine r_ret ?_
    with_reducible refine r_then_ret ?_
    exact r_retm (Rd.one rfl (RdI.cellW Try.underlying117 rfl inf117 rfl rfl)) (by rfl) SelMC.sel SubRC.sub
  ·
    (exfalso; omega)
set_option maxHeartbeats 4000000 in
theorem best1_s (F : Work) (ro ho : Option Addr) (rc hc : Nat) (fb : Nat) (men : Int) (hg : GoodF F) (b1 b2 b3 b4 b5 b6 mb : Nat) (sa : Option Addr) (sc : Nat) (xs : List Inner) (hxl : xs.length = F.heaps.length) (hR : Foot4.Rows F xs) (r : Nat) (ih : ∀ (hp : Nat) (C : List Int), hp + r = F.heaps.length → C.length = 8 → Small C (3 * hp) → FnM Try.prog 96 [keyL hp C, pt b1 0, pt b2 0, pt b3 0, pt b4 0, pt b5 0, pt b6 0] (memo Try.prog 115 (okW F men) mb) [boxF b1 81 [pt fb 0], boxF b2 141 [.map (some mb)], boxF b3 112 [.func (.func 96) #[] #[pt b1 0, pt b2 0, pt b3 0, pt b4 0, pt b5 0, pt b6 0]], boxF b4 27 [i64 (-1), i64 (-1), i64 (-1)], boxF b5 140 [.slice sa xs.length sc], boxF b6 3 [i64 men], rowD sa 1 encO xs, allRows F xs, boxF fb 126 (cellsF F ro rc ho hc), rowD ro 2 encS F.rain, rowD ho 3 encH F.heaps] (fun u => u = valWay (bestW F men r C))) (hp : Nat) (hpr : hp + (r + 1) = F.heaps.length) (B : List Int) (hB : B.length = 8) (hs : Small B (3 * hp)) : FnM Try.prog 96 [keyL hp B, pt b1 0, pt b2 0, pt b3 0, pt b4 0, pt b5 0, pt b6 0] (memo Try.prog 115 (okW F men) mb) [boxF b1 81 [pt fb 0], boxF b2 141 [.map (some mb)], boxF b3 112 [.func (.func 96) #[] #[pt b1 0, pt b2 0, pt b3 0, pt b4 0, pt b5 0, pt b6 0]], boxF b4 27 [i64 (-1), i64 (-1), i64 (-1)], boxF b5 140 [.slice sa xs.length sc], boxF b6 3 [i64 men], rowD sa 1 encO xs, allRows F xs, boxF fb 126 (cellsF F ro rc ho hc), rowD ro 2 encS F.rain, rowD ho 3 encH F.heaps] (fun u => u = valWay (bestW F men (r + 1) B)) := by
  have hkl0 := key_of hp B (by have := hg.2.2.1; omega) hB (fun i => by have := hs i; have := hg.2.2.1; omega)
  obtain ⟨kl, hkl⟩ := hkl0
  have hb := hg.bnd
  have hl3 := hg.2.2.1
  refine FnM.intro Try.call96 Try.func96 rfl Try.ntmps96 rfl ?_
  intro W M Rf
  refine r_seq ?_
  refine r_region ?_
  refine o_boxA rfl rfl rfl rfl rfl (fun b7 => ?_)
  refine o_alloc rfl inf117 rfl rfl rfl rfl rfl (fun b8 => ?_)
  refine o_nil ?_
  with_reducible refine r_then ?_
  refine r_seq ?_
  refine r_seq ?_
  refine Imp.sealB b7 ?_
  refine r_region_q mixed (by kernel_rfl) ?_
  refine q_q _ rfl rfl rfl (v_fieldAddr rfl Try.underlying115 inf3 rfl rfl rfl rfl) ?_
  refine q_q _ rfl rfl rfl (v_lf1 rfl Try.underlying3 rfl rfl rfl) ?_
  refine q_q _ rfl rfl rfl (v_lf1 rfl Try.underlying81 rfl rfl rfl) ?_
  refine q_q _ rfl rfl rfl (v_nilCheck rfl rfl) ?_
  refine q_q _ rfl rfl rfl (v_fieldAddr rfl Try.underlying126 inf26 rfl rfl rfl rfl) ?_
  refine q_q _ rfl rfl rfl (v_fieldAddr rfl Try.underlying26 inf24 rfl rfl rfl rfl) ?_
  refine q_q _ rfl rfl rfl (v_lf1 rfl Try.underlying24 rfl rfl rfl) ?_
  refine q_q _ rfl rfl rfl (v_len rfl rfl Try.underlying24 rfl) ?_
  refine q_q _ rfl rfl rfl (v_eql rfl rfl rfl) ?_
  refine q_nil ?_
  with_reducible refine r_then ?_
  refine r_condd rfl (fun hc24 => ?_) (fun hc24 => ?_)
  ·
    (exfalso; omega)
  ·
    refine r_skip ?_
    with_reducible refine r_then ?_
    refine r_seq ?_
    refine r_seq ?_
    refine r_region ?_
    refine o_q _ rfl rfl rfl (v_lf1 rfl Try.underlying141 rfl rfl rfl) ?_
    refine o_q _ rfl rfl rfl (v_lfW rfl Try.underlying115 rfl inf115 rfl (by rw [List.length_cons, List.length_map, hB]; rfl)) ?_
    refine o_lookupD (ok := okW F men) (b := mb) (valWay (bestW F men (r + 1) B)) (fun u hu => hu hp (r + 1) B hpr rfl) keyLaw115 hkl rfl Try.underlying141 inf117 rfl rfl rfl rfl rfl rfl ?_ ?_
    all_goals
      refine o_q _ rfl rfl rfl (v_move rfl rfl) ?_
      refine o_q _ rfl rfl rfl (v_extract rfl rfl rfl) ?_
      refine o_q _ rfl rfl rfl (v_extract rfl rfl rfl) ?_
      refine o_alloc rfl inf117 rfl rfl rfl rfl rfl (fun b9 => ?_)
      refine o_st rfl inf117 rfl rfl rfl rfl rfl rfl rfl rfl ?_
      refine o_q _ rfl rfl rfl (v_assign rfl rfl) ?_
      refine o_nil ?_
      with_reducible refine r_then ?_
      refine r_seq ?_
      refine r_region ?_
      refine o_q _ rfl rfl rfl (v_move rfl rfl) ?_
      refine o_nil ?_
      with_reducible refine r_then ?_
      refine r_cond rfl (fun hc32 => ?_) (fun hc32 => ?_)
      ·
        first
        | (exfalso; revert hc32; decide)
        | skip
          refine r_seq ?_
          refine r_region ?_
          refine o_q _ rfl rfl rfl (v_ldW rfl Try.underlying117 rfl inf117 rfl rfl) ?_
          refine o_st rfl inf117 rfl rfl rfl rfl rfl rfl rfl rfl ?_
          refine o_nil ?_
          with_reducible refine r_then ?_
          refine r_ret ?_
          with_reducible refine r_then_ret ?_
          exact r_retm (Rd.one rfl (RdI.cellW Try.underlying117 rfl inf117 rfl rfl)) (by rfl) SelMC.sel SubRC.sub
      ·
        first
        | (exfalso; revert hc32; decide)
        | skip
          refine r_skip ?_
          with_reducible refine r_then ?_
          refine r_seq ?_
          refine r_par' 10 mixed (by kernel_rfl) (by rfl) ?_
          refine p_q _ rfl rfl rfl (fun _ _ => v_lf1 rfl Try.underlying112 rfl rfl rfl) ?_
          refine p_q _ rfl rfl rfl (fun _ _ => v_fieldAddr rfl Try.underlying115 inf3 rfl rfl rfl rfl) ?_
          refine p_q _ rfl rfl rfl (fun _ _ => v_lf1 rfl Try.underlying3 rfl rfl rfl) ?_
          refine p_q _ rfl rfl rfl (fun _ _ => v_add rfl rfl rfl (by omega)) ?_
          refine p_q _ rfl rfl rfl (fun _ _ => v_fieldAddr rfl Try.underlying115 inf107 rfl rfl rfl rfl) ?_
          refine p_q _ rfl rfl rfl (fun _ _ => v_lfN (us := B.map iv) rfl Try.underlying107 rfl inf107 rfl (take8 hB) (by rw [List.length_map, hB]; rfl)) ?_
          refine p_q _ rfl rfl rfl (fun _ _ => mk115 rfl rfl rfl hB) ?_
          refine p_q _ rfl rfl rfl (fun _ _ => OpQ.fnm (ih (hp + 1) B (by omega) hB (fun i => by have := hs i; omega)) rfl [] [pt b1 0, pt b2 0, pt b3 0, pt b4 0, pt b5 0, pt b6 0] rfl rfl rfl SubRC.sub) ?_
          refine p_q _ rfl rfl rfl (fun _ _ => v_field rfl Try.underlying117 Try.underlying3 inf3 rfl rfl rfl rfl) ?_
          refine p_q _ rfl rfl rfl (fun _ _ => v_lfW rfl Try.underlying27 rfl inf27 rfl rfl) ?_
          refine p_nil2 (by simp only [List.nil_append, List.cons_append]; rfl) rfl ?_
          refine f_q rfl ?_
          refine f_q rfl ?_
          refine f_q rfl ?_
          refine f_q rfl ?_
          refine f_q rfl ?_
          refine f_q rfl ?_
          refine f_q rfl ?_
          refine f_q rfl ?_
          refine f_q rfl ?_
          refine f_q rfl ?_
          refine f_nil ?_
          refine o_q _ rfl rfl rfl (v_bS rfl Try.underlying117 inf117 plt117 rfl rfl rfl (by repeat (first | exact trivial | refine ⟨rfl, ?_⟩)) (by rfl)) ?_
          refine o_lit rfl Try.underlying143 inf117 rfl rfl rfl rfl rfl rfl rfl rfl (by repeat (first | exact trivial | refine ⟨rfl, ?_⟩)) (by rfl) (fun b45 => ?_)
          refine o_q _ rfl rfl rfl (v_assign rfl rfl) ?_
          refine o_nil ?_
          with_reducible refine r_then ?_
          refine r_seq ?_
          refine r_seq ?_
          obtain ⟨oa, ln, cp, hxe⟩ : ∃ oa ln cp, xs.getD hp default = (oa, ln, cp) := ⟨_, _, _, rfl⟩
          have hln : ln = (sureF selW F hp).length := by have := hR.2 hp (by omega); rw [hxe] at this; exact this
          subst hln
          refine Imp.derive (ψ := rowD oa 3 encT (sureF selW F hp)) ?_ (fun V hV => by have := hV (allRows F xs) InR.mem hp (by omega); rw [hxe] at this; exact this)
          refine Imp.ownBox (enc := encW) (sz := 4) b45 [⟨(bestW F men r B).sods, noneT⟩] rfl rfl (by simp [maxLen]) ?_
          refine r_region ?_
          refine o_q _ rfl rfl rfl (v_lf1 rfl Try.underlying140 rfl rfl rfl) ?_
          refine o_q _ rfl rfl rfl (v_fieldAddr rfl Try.underlying115 inf3 rfl rfl rfl rfl) ?_
          refine o_q _ rfl rfl rfl (v_lf1 rfl Try.underlying3 rfl rfl rfl) ?_
          refine o_q _ rfl rfl rfl (v_indexAddrSn rfl Try.underlying140 inf40 rfl rfl rfl (by omega) rfl) ?_
          refine o_q _ rfl rfl rfl (v_loadE1 (v := .slice oa (sureF selW F hp).length cp) rfl Try.underlying40 rfl rfl (by omega) rfl (by rw [hxe]; rfl)) ?_
          refine o_q _ rfl rfl rfl (v_len rfl rfl Try.underlying40 rfl) ?_
          refine o_q _ rfl rfl rfl (v_move rfl rfl) ?_
          refine o_nil ?_
          with_reducible refine r_then ?_
          refine r_block ?_
          refine r_loop (ι := Nat × Value) (fun gh => gh.1 ≤ (sureF selW F hp).length) (fun gh => [(1, pt b1 0), (2, pt b2 0), (3, pt b3 0), (4, pt b4 0), (5, pt b5 0), (6, pt b6 0), (7, pt b7 0), (8, pt b8 0), (11, gh.2), (50, .slice oa (sureF selW F hp).length cp), (51, i64 (sureF selW F hp).length), (52, i64 gh.1)]) (fun gh => ownL gh.2 117 4 encW (waysT F men hp B (fun C => (bestW F men r C).sods) gh.1) :: bx b8 117 [i64 0, i64 0, i64 0, i64 0] :: memo Try.prog 115 (okW F men) mb :: M) (fun gh => rowD oa 3 encT (sureF selW F hp) :: (boxF b7 115 (i64 hp :: B.map iv) :: ([boxF b1 81 [pt fb 0], boxF b2 141 [.map (some mb)], boxF b3 112 [.func (.func 96) #[] #[pt b1 0, pt b2 0, pt b3 0, pt b4 0, pt b5 0, pt b6 0]], boxF b4 27 [i64 (-1), i64 (-1), i64 (-1)], boxF b5 140 [.slice sa xs.length sc], boxF b6 3 [i64 men], rowD sa 1 encO xs, allRows F xs, boxF fb 126 (cellsF F ro rc ho hc), rowD ro 2 encS F.rain, rowD ho 3 encH F.heaps] ++ Rf))) (fun gh => (sureF selW F hp).length - gh.1) (0, .slice (some ⟨b45, 0, none⟩) 1 1) ?_ ?_ ?_
          ·
            refine Imp.own_to (.slice (some ⟨b45, 0, none⟩) 1 1) (waysT F men hp B (fun C => (bestW F men r C).sods) 0) waysT_0.symm ?_
            refine Imp.box_to b8 [i64 0, i64 0, i64 0, i64 0] rfl ?_
            exact r_here (by repeat (first | exact FSub.nil | refine FSub.cons rfl ?_)) SelMC.sel SubRC.sub
          ·
            exact Nat.zero_le _
          ·
            rintro ⟨k, v⟩ hI0
            dsimp only at hI0
            dsimp only
            have hsl := sureF_le (sel := selW) (F := F) (heap := hp) hb.len
            obtain ⟨a, b, c, hp_⟩ : ∃ a b c, (sureF selW F hp).getD k default = ⟨a, b, c⟩ := ⟨_, _, _, rfl⟩
            have hwk := waysT_le (F := F) (men := men) (h := hp) (B := B) (rec := (fun C => (bestW F men r C).sods)) (k := k) hb.len
            have hpl0 := fun (hk : k < (sureF selW F hp).length) => sure_day (sel := selW) (F := F) (h := hp) hb.len hk
            refine r_seq ?_
            refine r_region ?_
            refine o_q _ rfl rfl rfl (v_lss rfl rfl rfl) ?_
            refine o_nil ?_
            with_reducible refine r_then ?_
            refine r_seq ?_
            refine r_condd rfl (fun hc53 => ?_) (fun hc53 => ?_)
            ·
              refine r_skip ?_
              with_reducible refine r_then ?_
              refine r_seq ?_
              refine r_block ?_
              refine r_seq ?_
              refine r_region ?_
              refine o_q _ rfl rfl rfl (v_indexAddrSn rfl Try.underlying40 inf27 rfl rfl rfl (by omega) rfl) ?_
              refine o_q _ rfl rfl rfl (v_loadEN rfl Try.underlying27 rfl inf27 rfl (by omega) rfl rfl rfl) ?_
              simp only [hp_]
              refine o_alloc rfl inf27 rfl rfl rfl rfl rfl (fun b13 => ?_)
              refine o_st rfl inf27 rfl rfl rfl rfl rfl rfl rfl rfl ?_
              refine o_nil ?_
              with_reducible refine r_then ?_
              refine r_seq ?_
              refine r_seq ?_
              have hpl : ∀ j, j < 3 → 0 ≤ (⟨a, b, c⟩ : T3).at j ∧ (⟨a, b, c⟩ : T3).at j ≤ 7 := hp_ ▸ hpl0 (by omega)
              have hab : ∀ j, j < [a, b, c].length → 0 ≤ [a, b, c].getD j default ∧ [a, b, c].getD j default ≤ 7 := hab_of hpl
              refine Imp.sealB b13 ?_
              refine Imp.rowB (b := b13) i64 [a, b, c] rfl ?_
              refine r_region ?_
              refine o_q _ rfl rfl rfl (v_sliceA rfl Try.underlying27 inf3 rfl) ?_
              refine o_q _ rfl rfl rfl (v_makeFunc rfl rfl rfl) ?_
              refine o_test rfl rfl rfl (OpQ.fn (ints_c (fun d : Int => men ≤ B.getD d.toNat 0) [a, b, c] (some ⟨b13, 0, none⟩) 3 97 [pt b7 0, pt b6 0] [boxF b7 115 (i64 hp :: B.map iv), boxF b6 3 [i64 men]] (by simp) (fun j hj => busyAt_v B hp men _ b7 b6 hB (hab j hj))) rfl rfl SubRC.sub) (fun h58 => ?_) (fun h58 => ?_)
              all_goals
                refine o_nil ?_
                with_reducible refine r_then ?_
                refine r_cond rfl (fun hc58 => ?_) (fun hc58 => ?_)
                ·
                  first
                  | (exfalso; revert hc58; decide)
                  | skip
                    refine r_exit ?_
                    with_reducible refine r_then_exit ?_; refine r_in_here ?_; refine r_then ?_
                    refine r_region ?_
                    refine o_q _ rfl rfl rfl (v_add rfl rfl rfl (by omega)) ?_
                    refine o_q _ rfl rfl rfl (v_move rfl rfl) ?_
                    refine o_nil ?_
                    with_reducible refine r_then ?_
                    exact r_next ((k + 1, v)) (by refine Imp.own_to v (waysT F men hp B (fun C => (bestW F men r C).sods) (k + 1)) (waysT_no (by omega) hp_ (by assumption)) ?_; exact r_here (by repeat (first | exact FSub.nil | refine FSub.cons rfl ?_)) SelMC.sel SubRC.sub) (by first | omega | (show _ + 1 ≤ _; omega)) (by first | omega | (show _ - (_ + 1) < _ - _; omega))
                ·
                  first
                  | (exfalso; revert hc58; decide)
                  | skip
                    refine r_skip ?_
                    with_reducible refine r_then ?_
                    have hsd : -10000 ≤ (F.heaps.getD hp default).sods ∧ (F.heaps.getD hp default).sods ≤ 10000 := by have := (hg.2.2.2.2.2 hp (by omega)).2; omega
                    have hrc : -10000 ≤ (bestW F men r (with_ B ⟨a, b, c⟩)).sods ∧ (bestW F men r (with_ B ⟨a, b, c⟩)).sods ≤ 10000 := by have := bestW_bd hg men r (with_ B ⟨a, b, c⟩) (by omega); omega
                    refine r_par' 27 mixed (by kernel_rfl) (by rfl) ?_
                    refine p_q _ rfl rfl rfl (fun _ _ => v_move rfl rfl) ?_
                    refine p_q _ rfl rfl rfl (fun _ _ => v_lf1 rfl Try.underlying81 rfl rfl rfl) ?_
                    refine p_q _ rfl rfl rfl (fun _ _ => v_nilCheck rfl rfl) ?_
                    refine p_q _ rfl rfl rfl (fun _ _ => v_fieldAddr rfl Try.underlying126 inf26 rfl rfl rfl rfl) ?_
                    refine p_q _ rfl rfl rfl (fun _ _ => v_fieldAddr rfl Try.underlying26 inf24 rfl rfl rfl rfl) ?_
                    refine p_q _ rfl rfl rfl (fun _ _ => v_lf1 rfl Try.underlying24 rfl rfl rfl) ?_
                    refine p_q _ rfl rfl rfl (fun _ _ => v_fieldAddr rfl Try.underlying115 inf3 rfl rfl rfl rfl) ?_
                    refine p_q _ rfl rfl rfl (fun _ _ => v_lf1 rfl Try.underlying3 rfl rfl rfl) ?_
                    refine p_q _ rfl rfl rfl (fun _ _ => v_indexAddrSn rfl Try.underlying24 inf73 rfl rfl rfl (by omega) rfl) ?_
                    refine p_q _ rfl rfl rfl (fun _ _ => v_fieldAddr rfl Try.underlying73 inf3 rfl rfl rfl rfl) ?_
                    refine p_q _ rfl rfl rfl (fun _ _ => v_loadE1 rfl Try.underlying3 rfl rfl (by omega) rfl rfl) ?_
                    refine p_q _ rfl rfl rfl (fun _ _ => v_lf1 rfl Try.underlying112 rfl rfl rfl) ?_
                    refine p_q _ rfl rfl rfl (fun _ _ => v_fieldAddr rfl Try.underlying115 inf3 rfl rfl rfl rfl) ?_
                    refine p_q _ rfl rfl rfl (fun _ _ => v_lf1 rfl Try.underlying3 rfl rfl rfl) ?_
                    refine p_q _ rfl rfl rfl (fun _ _ => v_add rfl rfl rfl (by omega)) ?_
                    refine p_q _ rfl rfl rfl (fun _ _ => v_fieldAddr rfl Try.underlying115 inf107 rfl rfl rfl rfl) ?_
                    refine p_q _ rfl rfl rfl (fun _ _ => v_lfN (us := B.map iv) rfl Try.underlying107 rfl inf107 rfl (take8 hB) (by rw [List.length_map, hB]; rfl)) ?_
                    refine p_q _ rfl rfl rfl (fun _ _ => v_lfW rfl Try.underlying27 rfl inf27 rfl rfl) ?_
                    refine p_q _ rfl rfl rfl (fun _ _ => OpQ.fn (with_v _ _ _ _ hB (fun i => by have := hs i; omega) (fun j hj => (hpl j hj).2)) rfl rfl SubRC.sub) ?_
                    refine p_q _ rfl rfl rfl (fun _ _ => mk115 rfl rfl rfl (by rw [with_len, hB])) ?_
                    refine p_q _ rfl rfl rfl (fun _ _ => OpQ.fnm (ih (hp + 1) (with_ B ⟨a, b, c⟩) (by omega) (by rw [with_len, hB]) (fun i => by have := with_small (by omega) hs ⟨a, b, c⟩ i; omega)) rfl [] [pt b1 0, pt b2 0, pt b3 0, pt b4 0, pt b5 0, pt b6 0] rfl rfl rfl SubRC.sub) ?_
                    refine p_q _ rfl rfl rfl (fun _ _ => v_field rfl Try.underlying117 Try.underlying3 inf3 rfl rfl rfl rfl) ?_
                    refine p_lit rfl Try.underlying52 inf3 rfl rfl rfl rfl rfl rfl rfl rfl (by repeat (first | exact trivial | refine ⟨rfl, ?_⟩)) (by rfl) ?_
                    refine p_acc (by simp only [List.nil_append, List.cons_append]; rfl) ?_
                    refine p_depLit 22 rfl rfl (by kernel_rfl) rfl rfl rfl (fun b82 _ _ => OpQ.fn (total2_v b82 _ _ hsd hrc) rfl rfl SubRC.sub) ?_
                    refine p_q _ rfl rfl rfl (fun _ _ => v_lfW rfl Try.underlying27 rfl inf27 rfl rfl) ?_
                    refine p_q _ rfl rfl rfl (fun _ _ => v_bS rfl Try.underlying117 inf117 plt117 rfl rfl rfl (by repeat (first | exact trivial | refine ⟨rfl, ?_⟩)) (by rfl)) ?_
                    refine p_lit rfl Try.underlying143 inf117 rfl rfl rfl rfl rfl rfl rfl rfl (by repeat (first | exact trivial | refine ⟨rfl, ?_⟩)) (by rfl) ?_
                    refine p_nil2 (by simp only [List.nil_append, List.cons_append]; rfl) rfl ?_
                    refine f_q rfl ?_
                    refine f_q rfl ?_
                    refine f_q rfl ?_
                    refine f_q rfl ?_
                    refine f_q rfl ?_
                    refine f_q rfl ?_
                    refine f_q rfl ?_
                    refine f_q rfl ?_
                    refine f_q rfl ?_
                    refine f_q rfl ?_
                    refine f_q rfl ?_
                    refine f_q rfl ?_
                    refine f_q rfl ?_
                    refine f_q rfl ?_
                    refine f_q rfl ?_
                    refine f_q rfl ?_
                    refine f_q rfl ?_
                    refine f_q rfl ?_
                    refine f_q rfl ?_
                    refine f_q rfl ?_
                    refine f_q rfl ?_
                    refine f_q rfl ?_
                    refine f_lit rfl (fun b81 => ?_)
                    refine f_q rfl ?_
                    refine f_q rfl ?_
                    refine f_q rfl ?_
                    refine f_lit rfl (fun b85 => ?_)
                    refine f_nil ?_
                    refine o_app1F (⟨(F.heaps.getD hp default).sods + (bestW F men r (with_ B ⟨a, b, c⟩)).sods, ⟨a, b, c⟩⟩) rfl Try.underlying143 inf117 rfl (by rfl) (by rfl) rfl rfl rfl rfl rfl (by rfl) (by rfl) (by rfl) (by constructor <;> first | omega | decide) (fun v86 => ?_)
                    refine o_q _ rfl rfl rfl (v_assign rfl rfl) ?_
                    refine o_nil ?_
                    with_reducible refine r_in_normal ?_; refine r_then ?_
                    refine r_region ?_
                    refine o_q _ rfl rfl rfl (v_add rfl rfl rfl (by omega)) ?_
                    refine o_q _ rfl rfl rfl (v_move rfl rfl) ?_
                    refine o_nil ?_
                    with_reducible refine r_then ?_
                    exact r_next ((k + 1, v86)) (by refine Imp.own_to v86 (waysT F men hp B (fun C => (bestW F men r C).sods) (k + 1)) (waysT_yes (by omega) hp_ (by assumption)) ?_; exact r_here (by repeat (first | exact FSub.nil | refine FSub.cons rfl ?_)) SelMC.sel SubRC.sub) (by first | omega | (show _ + 1 ≤ _; omega)) (by first | omega | (show _ - (_ + 1) < _ - _; omega))
            ·
              refine r_exit ?_
              with_reducible refine r_then_exit ?_; refine r_then_exit ?_; refine r_in_here ?_; refine r_then ?_
              refine r_seq ?_
              refine Imp.own_to v (waysT F men hp B (fun C => (bestW F men r C).sods) (sureF selW F hp).length) (by rw [show k = (sureF selW F hp).length from by omega]) ?_
              have hwl := waysT_le (F := F) (men := men) (h := hp) (B := B) (rec := (fun C => (bestW F men r C).sods)) (k := (sureF selW F hp).length) hb.len
              refine Imp.settleS v encW_len (fun wa wc hv => ?_)
              subst hv
              refine r_region ?_
              refine o_q _ rfl rfl rfl (v_move rfl rfl) ?_
              refine o_q _ rfl rfl rfl (v_bS rfl Try.underlying148 inf148 plt148 rfl rfl rfl (by repeat (first | exact trivial | refine ⟨rfl, ?_⟩)) (by rfl)) ?_
              refine o_q _ rfl rfl rfl (OpQ.fn (chosenW_v _ _ _ hwl) rfl rfl SubRC.sub) ?_
              refine o_q _ rfl rfl rfl (v_move rfl rfl) ?_
              refine o_q _ rfl rfl rfl (v_extract rfl rfl rfl) ?_
              refine o_q _ rfl rfl rfl (v_extract rfl rfl rfl) ?_
              refine o_alloc rfl inf117 rfl rfl rfl rfl rfl (fun b14 => ?_)
              refine o_st rfl inf117 rfl rfl rfl rfl rfl rfl rfl rfl ?_
              refine o_q _ rfl rfl rfl (v_assign rfl rfl) ?_
              refine o_nil ?_
              with_reducible refine r_then ?_
              refine r_seq ?_
              refine r_region ?_
              refine o_q _ rfl rfl rfl (v_lf1 rfl Try.underlying141 rfl rfl rfl) ?_
              refine o_q _ rfl rfl rfl (v_lfW rfl Try.underlying115 rfl inf115 rfl (by rw [List.length_cons, List.length_map, hB]; rfl)) ?_
              refine o_q _ rfl rfl rfl (v_ldW rfl Try.underlying117 rfl inf117 rfl rfl) ?_
              refine o_mapUpdate (ok := okW F men) (b := mb) keyLaw115 hkl rfl Try.underlying141 rfl rfl rfl rfl rfl (okW_mk hpr (waysT_all ▸ bestW_eq hpr)) ?_
              refine o_nil ?_
              with_reducible refine r_then ?_
              refine r_seq ?_
              refine r_region ?_
              refine o_q _ rfl rfl rfl (v_ldW rfl Try.underlying117 rfl inf117 rfl rfl) ?_
              refine o_st rfl inf117 rfl rfl rfl rfl rfl rfl rfl rfl ?_
              refine o_nil ?_
              with_reducible refine r_then ?_
              refine r_ret ?_
              exact r_retm (Rd.one rfl (RdI.cellW Try.underlying117 rfl inf117 rfl rfl)) (by rw [waysT_all]; exact congrArg valWay (bestW_eq hpr)) SelMC.sel SubRC.sub
end Go.Proofs.Ytienjlmnakbfmaa


namespace Go.G
variable {P : Program} {W : World} {n : Nat} {D : List Deferred} {L : Tm} {M : List Res} {R : List Fact} {Q : Exit → Act → World → Prop} {o : Oper}
/-- A fact that stays when more is known. -/
def Mono (φ : Fact) : Prop := ∀ V V', φ V → Le V V' → φ V'
theorem Mono.box (b : Nat) (T : TypeId) (vs : List Value) : Mono (boxF b T vs) := fun _ _ h hl => hl _ _ h
theorem Mono.row {α : Type} (oa : Option Addr) (sz : Nat) (enc : α → List Value) (xs : List α) : Mono (rowD oa sz enc xs) := fun _ _ h hl => by
  rcases h with h | ⟨b, off, C, T, fr, h1, h2, h3⟩
  · exact .inl h
  · exact .inr ⟨b, off, C, T, fr, h1, hl _ _ h2, h3⟩
theorem Mono.and {φ ψ : Fact} (h : Mono φ) (k : Mono ψ) : Mono (fun V => φ V ∧ ψ V) := fun V V' x hl => ⟨h V V' x.1 hl, k V V' x.2 hl⟩
theorem Imp.exF {α : Type} {φ : α → Fact} {X : Act → World → Prop} (hm : (fun V => ∃ x, φ x V) ∈ R) (hst : ∀ x, Mono (φ x)) (h : ∀ x, Imp W n D L M (φ x :: R) X) : Imp W n D L M R X := by
  intro a w h1 h2 h3
  obtain ⟨s, hS, hO, hR⟩ := h3.mem
  obtain ⟨x, hx⟩ := hR _ hm _ (Le.refl _)
  refine h x a w h1 h2 ⟨h3.os, h3.tape, h3.output, s, hS, hO, ?_⟩
  intro ψ hψ
  rcases List.mem_cons.1 hψ with rfl | hψ
  · exact fun V' hl => hst x _ _ hx hl
  · exact hR ψ hψ
theorem OpG_lit {t e : TypeId} {ps : List (Nat × Operand)} {vs : List Value} {len : Nat} {i : TypeInfo} {z : Value} {cs : List Value} (ho : o.op = .buildSlice t len ps.toArray) (ht : P.underlying t = some (.slice e)) (hi : P.info? e = some i) (hz : i.zero = some z)
    (hbig : Nat.ble (len * i.size) 16777216 = true) (hpos : Nat.beq (len * i.size) 0 = false)
    (hx : evs L (ps.map (·.2)) = some vs) (hk : ps.map (·.1) = List.range ps.length) (hp : PlaceOK (fun k => some (k * i.size, i.size)) 0 0 vs) [hc : CatC vs cs] (hl : cs.length = len * i.size) : OpG P W n L M R o (Spc.lit len e cs) := by
  intro Mx Rx a w g1 g3
  have hu := parts_eq g1 hx hk
  have hb1 : ¬ (2 ^ 24 < len * i.size) := by
    have : len * i.size ≤ 16777216 := by simpa using hbig
    omega
  have hb2 : ¬ (len * i.size = 0) := fun e => by rw [e] at hpos; cases hpos
  have hf := fill_all (cells := (Array.range (len * i.size)).map (fun k => z.cells[k % z.cells.size]!)) hp hc.cat (by simpa using hl)
  have hrun : (execOp a.eval o).run P w = .ok (.value (.slice (some ⟨w.heap.size, 0, none⟩) len len)) (w.alloc (.cells cs.toArray e)) := by
    simp only [execOp, ho, Instr.buildSlice, Sem.run_bind, run_underlying ht, run_sizeOf' hi, Result.andThen_ok, gt_iff_lt, hb1, hb2, if_false, run_zeroValue' hi hz, Sem.run_pure, List.map_toArray, hu, hf]
    simp [newRow, newObj, Sem.run]
  rw [hrun]
  refine ⟨rfl, ?_⟩
  have h4 : St W (bx w.heap.size e cs :: (Mx ++ M)) (Rx ++ R) (w.alloc (.cells cs.toArray e)) := g3.push _
  refine (h4.seal_.derive (ψ := boxF w.heap.size e cs) fun V hV => ?_).weak ?_
  · obtain ⟨s, hs, hp⟩ := hV (sealed (bx w.heap.size e cs)) (by simp)
    have hs' : s = [(w.heap.size, .cells cs.toArray e (0, 0))] := hs
    subst hs'
    exact hp (w.heap.size, .cells cs.toArray e (0, 0)) (by simp)
  · intro φ hφ
    rcases List.mem_append.1 hφ with h | h
    · have : φ = boxF w.heap.size e cs := by simpa [Spc.fs, Spc.g, sblk] using h
      subst this; simp
    · exact List.mem_cons_of_mem _ (List.mem_cons_of_mem _ h)
/-- What is known of a slice of one slice. -/
def slF {α : Type} (b : Nat) (e : TypeId) (m sz : Nat) (enc : α → List Value) (ys : List α) : Fact := fun V => ∃ x : Option Addr × Nat, boxF b e [.slice x.1 m x.2] V ∧ rowD x.1 sz enc ys V
abbrev Spc.sl {α : Type} (m sz : Nat) (enc : α → List Value) (ys : List α) : Spc := Spc.g (isSl m) (fun _ => []) (fun v => [rowD (adr v) sz enc ys])
abbrev Spc.slsl {α : Type} (e : TypeId) (m sz : Nat) (enc : α → List Value) (ys : List α) : Spc := Spc.g (fun v => v = .slice (some ⟨sblk v, 0, none⟩) 1 1) (fun _ => []) (fun v => [slF (sblk v) e m sz enc ys])
theorem p_depSl {α : Type} {ops : Array Oper} {K : List Spc → Prop} {rest : List Oper} {acc : List Spc} {d : Nat} {t e : TypeId} {i : TypeInfo} {z : Value} {x : Nat} (j : Nat) {oj : Oper} {m sz : Nat} {enc : α → List Value} {ys : List α} (hoj : ops[j]? = some oj) (hsj : acc[j]? = some (Spc.sl m sz enc ys)) (hdep : depOn o j = true) (hg : o.guard = none) (hdst : o.dst = some d) (hd : Nat.blt d n = true)
    (ho : o.op = .buildSlice t 1 [(0, Operand.tmp x)].toArray) (hx : oj.dst.getD 1000000 = x) (ht : P.underlying t = some (.slice e)) (hi : P.info? e = some i) (hz : i.zero = some z) (h1 : i.size = 1)
    (h : ParO P W n M R ops K rest (acc ++ [Spc.slsl e m sz enc ys]) L) : ParO P W n M R ops K (o :: rest) acc L := by
  refine ⟨Spc.slsl e m sz enc ys, by simp [hdst, hd], .inl ⟨rfl, .inr (.inr (.inl ⟨hg, j, oj, _, hoj, hsj, rfl, hdep, fun u hu => ?_⟩))⟩, by simpa [addL, Spc.g] using h⟩
  obtain ⟨oa, cap, rfl⟩ := hu
  have hlit : OpG P W n ((oj.dst.getD 1000000, .slice oa m cap) :: L) M ((Spc.sl m sz enc ys).fct (.slice oa m cap) ++ R) o (Spc.lit 1 e [.slice oa m cap]) := by
    refine OpG_lit (vs := [.slice oa m cap]) ho ht hi hz (by rw [h1]; rfl) (by rw [h1]; rfl) ?_ rfl ⟨by rw [h1]; rfl, trivial⟩ (by rw [h1]; rfl)
    show evs _ [Operand.tmp x] = _
    subst hx
    simp only [evs, ev, look_cons_eq]
  intro Mx Rx a w g1 g3
  have hr := hlit Mx Rx a w g1 g3
  generalize (execOp a.eval o).run P w = r at hr
  have conv : ∀ v w', (Spc.lit 1 e [.slice oa m cap]).val v → St W ((Spc.lit 1 e [.slice oa m cap]).rs v ++ (Mx ++ M)) ((Spc.lit 1 e [.slice oa m cap]).fs v ++ (Rx ++ ((Spc.sl m sz enc ys).fct (.slice oa m cap) ++ R))) w' →
      (Spc.slsl e m sz enc ys).val v ∧ St W ((Spc.slsl e m sz enc ys).rs v ++ (Mx ++ M)) ((Spc.slsl e m sz enc ys).fs v ++ (Rx ++ ((Spc.sl m sz enc ys).fct (.slice oa m cap) ++ R))) w' := by
    intro v w' hv hst
    refine ⟨hv, ?_⟩
    refine (hst.derive (ψ := slF (sblk v) e m sz enc ys) fun V hV => ⟨(oa, cap), hV _ ?_, hV _ ?_⟩).weak ?_
    · exact List.mem_append_left _ (by simp [Spc.fs, Spc.g])
    · exact List.mem_append_right _ (List.mem_append_right _ (List.mem_append_left _ (by simp [Spc.g, adr])))
    · intro φ hφ
      rcases List.mem_append.1 hφ with h | h
      · have : φ = slF (sblk v) e m sz enc ys := by simpa [Spc.fs, Spc.g] using h
        subst this; simp
      · exact List.mem_cons_of_mem _ (List.mem_append_right _ h)
  cases r with
  | ok y w' =>
    cases y <;> simp only [upG] at hr ⊢
    case value v => exact conv v w' hr.1 hr.2
    case skip => exact conv undef w' hr.1 hr.2
    case enter f args =>
      obtain ⟨rfl, hc⟩ := hr
      refine ⟨rfl, hc.mono ?_⟩
      rintro e w'' ⟨v, rfl, h4, h5⟩
      exact ⟨v, rfl, conv v w'' h4 h5⟩
  | halt x w' => exact hr.elim
theorem f_slsl {α : Type} {X : Act → World → Prop} {os : List Oper} {ss : List Spc} {e : TypeId} {m sz : Nat} {enc : α → List Value} {ys : List α} {d : Nat} (hdst : o.dst = some d) (h : ∀ b, Fin W n D X os ss ((d, .slice (some ⟨b, 0, none⟩) 1 1) :: L) M (slF b e m sz enc ys :: R)) : Fin W n D X (o :: os) (Spc.slsl e m sz enc ys :: ss) L M R :=
  f_g hdst (fun v hv => by
    have := h (sblk v)
    rw [← (show v = .slice (some ⟨sblk v, 0, none⟩) 1 1 from hv)] at this
    exact this)
theorem f_gf {X : Act → World → Prop} {os : List Oper} {ss : List Spc} {pval : Value → Prop} {fct : Value → List Fact} {d : Nat} (hdst : o.dst = some d) (h : ∀ v, pval v → Fin W n D X os ss ((d, v) :: L) M (fct v ++ R)) : Fin W n D X (o :: os) (Spc.g pval (fun _ => []) fct :: ss) L M R := f_g hdst h
class HasF (φ : Fact) (R : List Fact) : Prop where
  mem : φ ∈ R
theorem Imp.slF {α : Type} {X : Act → World → Prop} {b : Nat} {e : TypeId} {m sz : Nat} {enc : α → List Value} {ys : List α} [hm : InR (G.slF b e m sz enc ys) R] (h : ∀ oa cap, Imp W n D L M (boxF b e [.slice oa m cap] :: rowD oa sz enc ys :: R) X) : Imp W n D L M R X := by
  refine Imp.exF (φ := fun x : Option Addr × Nat => fun V => boxF b e [.slice x.1 m x.2] V ∧ rowD x.1 sz enc ys V) hm.mem (fun x => (Mono.box _ _ _).and (Mono.row _ _ _ _)) ?_
  rintro ⟨oa, cap⟩
  refine Imp.derive (ψ := rowD oa sz enc ys) ?_ (fun V hV => (hV _ (List.mem_cons_self ..)).2)
  refine Imp.derive (ψ := boxF b e [.slice oa m cap]) ?_ (fun V hV => (hV _ (List.mem_cons_of_mem _ (List.mem_cons_self ..))).1)
  refine (h oa cap).weak (fun _ _ h => h) SelM.refl ?_
  intro φ hφ
  rcases List.mem_cons.1 hφ with rfl | hφ
  · simp
  · rcases List.mem_cons.1 hφ with rfl | hφ
    · simp
    · exact List.mem_cons_of_mem _ (List.mem_cons_of_mem _ (List.mem_cons_of_mem _ hφ))

/-! ### what hands back a function that remembers -/
/-- v, called with the key of what is left, answers it; it keeps m. -/
def FnOk (P : Program) {κ : Type} (dom : κ → Prop) (key : κ → Value) (ans : κ → Value) (v : Value) (m : Res) (Rs : List Fact) : Prop :=
  ∃ k caps, v = .func (.func k) #[] (List.toArray caps) ∧ ∀ x, dom x → FnM P k (key x :: caps) m Rs (fun u => u = ans x)
theorem o_fnk {κ : Type} {dom : κ → Prop} {key ans : κ → Value} {ops : Array Oper} {rest : List Oper} {k : FuncId} {args : List Value} {R0 : List Fact} {xs : List Operand} {ts : Array TypeId} {d : Nat}
    (h : FnS P k args [] R0 (fun e M' R' => ∃ v m, e = .returned v ∧ M' = [m] ∧ FnOk P dom key ans v m R')) (ho : o.op = .call { callee := .value (.func k), args := xs.toArray, argTypes := ts })
    (hx : evs L xs = some args) (hg : o.guard = none) (hdst : o.dst = some d) (hd : Nat.blt d n = true) (hs : SubR R R0)
    (hret : ∀ (k : FuncId) (caps : List Value) (m : Res) (Rs : List Fact), (∀ x, dom x → FnM P k (key x :: caps) m Rs (fun u => u = ans x)) → Imp W n D ((d, .func (.func k) #[] caps.toArray) :: L) (m :: M) (Rs ++ R) (wpList P ops Q rest)) : Imp W n D L M R (wpList P ops Q (o :: rest)) := by
  refine o_call h ho [] [] rfl hx (by simp) hg (by simp [okD, hdst, hd]) SelM.refl hs ?_ ?_ ?_
  · rintro v M' R' ⟨v', m, he, rfl, kk, caps, rfl, hf⟩
    cases he
    rw [hdst]
    exact hret kk caps m R' hf
  · rintro c M' R' ⟨v', m, he, _⟩; cases he
  · rintro M' R' ⟨v', m, he, _⟩; cases he
end Go.G


namespace Go.G
variable {P : Program} {W : World} {n : Nat} {D : List Deferred} {L : Tm} {M : List Res} {R : List Fact} {Q : Exit → Act → World → Prop} {o : Oper}

instance HasOwn.appn {α : Type} {v : Value} {A M M' : List Res} {T : TypeId} {sz : Nat} {enc : α → List Value} {xs : List α} [h : HasOwn v M T sz enc xs M'] : HasOwn v (A ++ M) T sz enc xs (A ++ M') := ⟨by
  obtain ⟨X, Y, h1, h2⟩ := h.del
  exact ⟨A ++ X, Y, by simp [h1], by simp [h2]⟩⟩
instance (priority := 1350) SelMC.capp {M A B : List Res} {r : Res} [h : SelMC M (r :: (A ++ B))] : SelMC M ((r :: A) ++ B) := ⟨h.sel⟩
instance (priority := 1340) SelMC.napp {M B : List Res} [h : SelMC M B] : SelMC M ([] ++ B) := ⟨h.sel⟩
theorem made_flat {α : Type} {enc : α → List Value} {z : Array Value} {z0 : α} (hz : enc z0 = z.toList) : ∀ l : Nat, (madeCells z (l * z.size)).toList = (List.replicate l z0).flatMap enc := by
  intro l
  have hlen : (enc z0).length = z.size := by rw [hz]; simp
  apply List.ext_getElem?
  intro k
  by_cases hk : k < l * z.size
  · have hpos : 0 < z.size := Nat.pos_of_ne_zero fun h => by rw [h] at hk; simp at hk
    have hlt : k % z.size < z.size := Nat.mod_lt _ hpos
    have hdiv : k / z.size < l := Nat.div_lt_of_lt_mul (by rw [Nat.mul_comm]; exact hk)
    have hkk : k = (k / z.size) * z.size + k % z.size := by rw [Nat.mul_comm]; exact (Nat.div_add_mod k z.size).symm
    have key : ∀ (l i j : Nat), i < l → j < z.size → ((List.replicate l z0).flatMap enc)[i * z.size + j]? = z[j]? := by
      intro l
      induction l with
      | zero => intro i j h; omega
      | succ l ih =>
        intro i j h hj
        rw [List.replicate_succ, List.flatMap_cons]
        cases i with
        | zero =>
          rw [List.getElem?_append_left (by rw [hlen]; omega), hz]
          simp
        | succ i =>
          rw [List.getElem?_append_right (by rw [hlen, Nat.add_mul]; omega), hlen, show (i + 1) * z.size + j - z.size = i * z.size + j from by rw [Nat.add_mul]; omega]
          exact ih i j (by omega) hj
    rw [show ((List.replicate l z0).flatMap enc)[k]? = z[k % z.size]? from by conv => lhs; rw [hkk]
                                                                              exact key l _ _ hdiv hlt]
    unfold madeCells
    simp [hk, hlt]
  · have h1 : ((List.replicate l z0).flatMap enc).length = l * z.size := by
      clear hk
      induction l with
      | zero => simp
      | succ l ih => rw [List.replicate_succ, List.flatMap_cons, List.length_append, hlen, ih, Nat.add_mul]; omega
    rw [List.getElem?_eq_none (by simp [madeCells]; omega), List.getElem?_eq_none (by omega)]

/-- 'make([]T, l, c)'. -/
theorem o_make {α : Type} {enc : α → List Value} {ops : Array Oper} {rest : List Oper} {t e : TypeId} {i : TypeInfo} {z : Value} {x y : Operand} {l c d : Nat} {sz : Nat} (z0 : α) (ho : o.op = .makeSlice t x y) (ht : P.underlying t = some (.slice e)) (hi : P.info? e = some i) (hz : i.zero = some z) (hsz : i.size = sz) (hzs : z.cells.size = sz) (hz0 : enc z0 = z.cells.toList)
    (hg : o.guard = none) (hdst : o.dst = some d) (hd : Nat.blt d n = true) (hx : ev L x = some (.int .i64 (l : Int))) (hy : ev L y = some (.int .i64 (c : Int))) (hlc : l ≤ c) (hbd : c ≤ 1000000 ∧ i.bytes ≤ 1000000)
    (h : ∀ b, Imp W n D ((d, .slice (some ⟨b, 0, none⟩) l c) :: L) (ownL (.slice (some ⟨b, 0, none⟩) l c) e sz enc (List.replicate l z0) :: M) R (wpList P ops Q rest)) : Imp W n D L M R (wpList P ops Q (o :: rest)) := by
  intro a w g1 g2 g3
  refine wpList_plain hg fun K hK => ?_
  unfold Oper.wp
  have hby : (i.bytes : Int) * (c : Int) ≤ 281474976710656 := by
    have h1 : i.bytes * c ≤ 1000000 * 1000000 := Nat.mul_le_mul hbd.2 hbd.1
    have h2 : ((i.bytes * c : Nat) : Int) ≤ 281474976710656 := by omega
    rwa [Int.natCast_mul] at h2
  have hr := run_make (P := P) w t e i z ht hi hz .i64 .i64 l c (by omega) (by omega) hby (by omega)
  have key : ∀ ρ : Operand → Value, ρ x = .int .i64 (l : Int) → ρ y = .int .i64 (c : Int) → (execOp ρ o).run P w = .ok (.value (.slice (some ⟨w.heap.size, 0, none⟩) l c)) (w.alloc (.cells (madeCells z.cells (c * i.size)) e)) := by
    intro ρ e1 e2
    unfold execOp
    simp only [Int.toNat_natCast] at hr
    simp only [ho, e1, e2, Sem.run_bind, hr, Result.andThen_ok, Sem.run_pure]
  rw [key _ (g1.ev hx) (g1.ev hy), Oper.upon_value, hdst]
  refine hK _ _ (h w.heap.size _ _ (g1.put (by simpa using hd) _) (by rw [put_defers]; exact g2) ?_)
  have h4 := g3.push (.cells (madeCells z.cells (c * i.size)) e)
  obtain ⟨s, ⟨s1, s2, rfl, hs1, hM⟩, hO, hR⟩ := h4.mem
  refine ⟨h4.os, h4.tape, h4.output, s1 ++ s2, ⟨s1, s2, rfl, ?_, hM⟩, hO, hR⟩
  have hfl := made_flat (enc := enc) (z := z.cells) hz0 l
  have hlen : ((List.replicate l z0).flatMap enc).length = l * sz := by rw [← hfl, hzs]; simp [madeCells]
  refine ⟨by rw [hlen]; simp, .inr ⟨w.heap.size, c, _, by simp, by simpa using hlc, by simp only [maxLen]; omega, by rw [size_madeCells, hsz], ?_, hs1⟩⟩
  rw [List.length_replicate, ← hfl, hzs, hsz]
  apply List.ext_getElem?
  intro k
  rw [List.getElem?_take]
  unfold madeCells
  have hle : l * sz ≤ c * sz := Nat.mul_le_mul_right _ hlc
  split
  · rename_i hk
    simp [hk, show k < c * sz from by omega]
  · rename_i hk
    simp [hk]

/-- 'copy(dst, src)', as many elements on both sides. -/
theorem o_copy {α : Type} {enc : α → List Value} {ops : Array Oper} {rest : List Oper} {t t2 e : TypeId} {i : TypeInfo} {x y : Operand} {d m : Nat} {sz cap : Nat} {v : Value} {xs ys : List α} {oa : Option Addr} {M' : List Res} [hM : HasOwn v M e sz enc xs M'] [hr : HasRow oa R sz enc ys] (ho : o.op = .call { callee := .builtin .copy, args := #[x, y], argTypes := #[t, t2] })
    (ht : P.underlying t = some (.slice e)) (hi : P.info? e = some i) (hsz : i.size = sz) (hg : o.guard = none) (hdst : o.dst = some d) (hd : Nat.blt d n = true) (henc : ∀ x, (enc x).length = sz) (h1 : ∀ x, oneCells (enc x) = true)
    (hx : ev L x = some v) (hy : ev L y = some (.slice oa m cap)) (hm : m = ys.length) (hl : xs.length = ys.length)
    (h : Imp W n D ((d, .int .i64 (m : Int)) :: L) (ownL v e sz enc ys :: M') R (wpList P ops Q rest)) : Imp W n D L M R (wpList P ops Q (o :: rest)) := by
  subst hm hsz
  intro a w g1 g2 g3
  refine wpList_plain hg fun K hK => ?_
  unfold Oper.wp
  have h0 : St W (ownL v e i.size enc xs :: M') R w := g3.perm hM.del.perm
  obtain ⟨s, ho', hO⟩ := h0.res (Upd.of_mem (List.mem_cons_self ..))
  have hcl : (ys.flatMap enc).length = ys.length * i.size := by
    clear hr hy hl h
    induction ys with
    | nil => simp
    | cons y ys ih => rw [List.flatMap_cons, List.length_append, henc, ih, List.length_cons, Nat.add_mul]; omega
  have h1c : ∀ u ∈ ys.flatMap enc, u.oneCell' = true := by
    intro u hu
    obtain ⟨y, _, hy⟩ := List.mem_flatMap.1 hu
    exact oneCells_mem (h1 y) u hy
  have run : ∃ w', (Builtin.copy_ #[t, t2] o.type #[v, .slice oa ys.length cap]).run P w = .ok (goInt ys.length) w' ∧ St W (ownL v e i.size enc ys :: M') R w' := by
    obtain ⟨hlen, hcase⟩ := ho'
    by_cases hy0 : ys = []
    · subst hy0
      have hx0 : xs = [] := List.eq_nil_of_length_eq_zero (by simpa using hl)
      subst hx0
      refine ⟨w, ?_, h0⟩
      rcases hcase with ⟨rfl, _, _⟩ | ⟨b, cp, C, rfl, _⟩ <;> cases oa <;> simp [Builtin.copy_, run_underlying ht, Builtin.lenOf, Builtin.firstCells, sizeOf, typeInfo, hi, loadCells, loadCellsFrom, storeCells]
    · have hne : 0 < ys.length := List.length_pos_iff.2 hy0
      obtain ⟨b2, off, rfl, hc⟩ := g3.row hr.mem hne
      rcases hcase with ⟨rfl, h00, _⟩ | ⟨b, cp, C, rfl, hmc, hcm, hC, htake, rfl⟩
      · omega
      · have hb : w.heap[b]? = some (.cells C e (0, 0)) := hO.at_ (b, _) (by simp)
        have hload := run_loadCells_list (P := P) w ⟨b2, off, none⟩ (ys.flatMap enc) (fun j u hu => by
          have hj : j < ys.length * i.size := by rw [← hcl]; exact (List.getElem?_eq_some_iff.1 hu).1
          have hpos : 0 < i.size := Nat.pos_of_ne_zero fun h => by rw [h] at hj; simp at hj
          have hlt : j % i.size < i.size := Nat.mod_lt _ hpos
          have hdiv : j / i.size < ys.length := Nat.div_lt_of_lt_mul (by rw [Nat.mul_comm]; exact hj)
          have hkk : j = (j / i.size) * i.size + j % i.size := by rw [Nat.mul_comm]; exact (Nat.div_add_mod j i.size).symm
          have e1 := flat_at henc ys _ _ hdiv hlt
          rw [← hkk, hu] at e1
          rw [add_at]
          have e2 := hc _ _ hdiv hlt
          rw [Nat.add_assoc, ← hkk] at e2
          rw [e2, ← e1])
        have hfit : 0 + 0 + (ys.flatMap enc).length ≤ C.size := by
          rw [hcl, hC]; simp only [Nat.zero_add]; exact Nat.mul_le_mul_right _ (by omega)
        have hst := run_storeCells_at P b 0 e (ys.flatMap enc) 0 C w hb hfit h1c
        refine ⟨w.setRow b (C.toList.take (0 + 0) ++ ys.flatMap enc ++ C.toList.drop (0 + 0 + (ys.flatMap enc).length)).toArray, ?_, ?_⟩
        · have hmin : Nat.min ys.length ys.length = ys.length := Nat.min_self _
          rw [hcl] at hload
          rw [hl]
          unfold Builtin.copy_
          simp only [List.size_toArray, List.length_cons, List.length_nil, Nat.reduceAdd, Nat.lt_add_one, Nat.zero_lt_succ, Array.getElem?_eq_getElem, List.getElem_toArray, List.getElem_cons_zero, List.getElem_cons_succ, Sem.run_bind, run_underlying ht, Result.andThen_ok, Builtin.lenOf, Builtin.firstCells, Sem.run_pure, run_sizeOf' hi, hmin, hload, hst]
        · refine h0.replace Upd.here rfl rfl rfl ?_
          rintro s' ⟨_, hc'⟩ hO'
          have hs' : s' = [(b, .cells C e (0, 0))] := by
            rcases hc' with ⟨hv, _⟩ | ⟨b', cap', C', hv, _, _, _, _, hs''⟩
            · cases hv
            · simp only [Value.slice.injEq, Option.some.injEq, Addr.mk.injEq] at hv
              obtain ⟨⟨rfl, _, _⟩, _, rfl⟩ := hv
              subst hs''
              have := hO'.at_ (b, .cells C' e (0, 0)) (by simp)
              simp only at this
              rw [hb] at this
              simp only [Option.some.injEq, Obj.cells.injEq] at this
              rw [this.1]
          subst hs'
          refine ⟨[(b, .cells (C.toList.take (0 + 0) ++ ys.flatMap enc ++ C.toList.drop (0 + 0 + (ys.flatMap enc).length)).toArray e (0, 0))], ⟨hcl, .inr ⟨b, cp, _, by rw [hl], by omega, hcm, ?_, ?_, rfl⟩⟩, ⟨by simp [keys], ?_⟩, ?_, ?_⟩
          · simp only [List.size_toArray, List.length_append, List.length_take, List.length_drop, Array.length_toList]
            omega
          · simp only [Nat.add_zero, List.take_zero, List.nil_append]
            rw [← hcl]
            exact List.take_left
          · intro p hp
            simp only [List.mem_singleton] at hp
            subst hp
            exact setRow_heap w b C _ e _ hb
          · intro x hx; exact .inl (by simpa [keys] using hx)
          · intro x _ hx
            exact setRow_other w b x _ (by simpa [keys] using hx)
  obtain ⟨w', hr', hw'⟩ := run
  have hrun : ∀ ρ : Operand → Value, ρ x = v → ρ y = .slice oa ys.length cap → (execOp ρ o).run P w = .ok (.value (goInt ys.length)) w' := by
    intro ρ e1 e2
    unfold execOp
    simp only [ho, resolve, invoke, builtin, Sem.run_bind, Sem.run_pure, Result.andThen_ok, List.map_toArray, List.map_cons, List.map_nil, e1, e2, hr']
  rw [hrun _ (g1.ev hx) (g1.ev hy), Oper.upon_value, hdst]
  exact hK _ _ (h _ w' (g1.put (by simpa using hd) _) (by rw [put_defers]; exact g2) hw')

/-! ### functions that hand over blocks -/
theorem FnS.intro0 {k : FuncId} {args : List Value} {R0 : List Fact} {Post : Ending → List Res → List Fact → Prop} {fn : Func} {c : Code} (he : ∀ (ag : Array Value) (w : World), (callFunc k ag).run P w = .ok (.enter k ag) w)
    (hf : P.funcs[k]? = some fn) (hb : fn.body = some c) (hn : fn.ntmps = n) (ha : Nat.ble args.length n = true)
    (h : ∀ W Mf Rf, Imp W n [] (argsL args 0) Mf (R0 ++ Rf) (c.wp P (bodyPost P fn (RetE W Mf (R0 ++ Rf) Post)))) : FnS P k args [] R0 Post := FnS.intro he hf hb hn ha h
theorem FnS.introD0 {k : FuncId} {args : List Value} {R0 : List Fact} {Post : Ending → List Res → List Fact → Prop} {fn : Func} {c : Code} (he : ∀ (ag : Array Value) (w : World), (callFunc k ag).run P w = .ok (.enter k ag) w)
    (hf : P.funcs[k]? = some fn) (hb : fn.body = some c) (hn : fn.ntmps = n) (ha : Nat.ble args.length n = true)
    (h : ∀ W Mf Rf, Imp W n [] (argsL args 0) Mf (R0 ++ Rf) (c.wp P (bodyPostD P fn (RetE W Mf (R0 ++ Rf) Post)))) : FnS P k args [] R0 Post := by
  refine ⟨he, fun W Mf Rf w hw => calls_of_wp_defers hf hb ?_⟩
  rw [hn]
  exact h W Mf Rf _ w (FSat.entry (Nat.le_of_ble_eq_true ha)) rfl hw
theorem d_rete {k : FuncId} {K : IntKind} {rT B : TypeId} {b : Nat} {fn : Func} {v : Value} {Mf : List Res} {R0 : List Fact} {Post : Ending → List Res → List Fact → Prop} (M' : List Res) (R' : List Fact) (ha : AnsP P k K rT B) (hr : Rd P W n L M R fn v) (hp : Post (.returned v) M' R') (hM : SelM M (M' ++ Mf)) (hR : SubR R (R' ++ R0)) :
    Imp W n [{ target := .fn (.func k) #[], args := #[pt b 0] }] L M R (bodyPostD P fn (RetE W Mf R0 Post) .ret) :=
  leaves_ret ha hr (fun _ h => ⟨M', R', hp, (h.sel hM).weak hR⟩)
theorem d_pane {k : FuncId} {K : IntKind} {rT B : TypeId} {b : Nat} {x : Value} {y : Int} {M1 : List Res} {fn : Func} {v : Value} {Mf : List Res} {R0 : List Fact} {Post : Ending → List Res → List Fact → Prop} (M' : List Res) (R' : List Fact) (ha : AnsP P k K rT B) [hu : UpdBox b M B [x] [.int K y] M1] (hr : Rd P W n L M1 R fn v) (hp : Post (.returned v) M' R') (hM : SelM M1 (M' ++ Mf)) (hR : SubR R (R' ++ R0)) :
    Imp W n [{ target := .fn (.func k) #[], args := #[pt b 0] }] L M R (bodyPostD P fn (RetE W Mf R0 Post) (.panic [{ v := .iface rT (.int K y), recovered := false }])) :=
  leaves_pan ha hr (fun _ h => ⟨M', R', hp, (h.sel hM).weak hR⟩)
end Go.G


namespace Foot4
open Go Go.G
abbrev KeyW := Nat × Nat × List Int
def domW (F : Work) (x : KeyW) : Prop := x.1 + x.2.1 = F.heaps.length ∧ x.2.2.length = 8 ∧ Small x.2.2 (3 * x.1)
@[reducible] def keyW (x : KeyW) : Value := keyL x.1 x.2.2
@[reducible] def ansW (F : Work) (men : Int) (x : KeyW) : Value := valWay (bestW F men x.2.1 x.2.2)
@[reducible] def zeros : List Int := [0, 0, 0, 0, 0, 0, 0, 0]
theorem small_zeros (m : Int) (h : 0 ≤ m) : Small zeros m := fun i => by
  match i with
  | 0 | 1 | 2 | 3 | 4 | 5 | 6 | 7 => exact ⟨Int.le_refl 0, h⟩
  | n + 8 => exact ⟨Int.le_refl 0, h⟩
def bestS (F : Work) (men : Int) : Int := (bestW F men F.heaps.length zeros).sods
/-- How it goes on, heap by heap. -/
def stW (F : Work) (men : Int) : Nat → List Int × List T3
  | 0 => (zeros, [])
  | k + 1 => (with_ (stW F men k).1 (bestW F men (F.heaps.length - k) (stW F men k).1).plan, (stW F men k).2 ++ [(bestW F men (F.heaps.length - k) (stW F men k).1).plan])
theorem stW_len (F : Work) (men : Int) : ∀ k, (stW F men k).1.length = 8 ∧ (stW F men k).2.length = k
  | 0 => ⟨rfl, rfl⟩
  | k + 1 => by simp [stW, with_len, stW_len F men k]
theorem stW_small (F : Work) (men : Int) : ∀ k : Nat, Small (stW F men k).1 (3 * k)
  | 0 => small_zeros _ (by omega)
  | k + 1 => by
    have := with_small (by omega) (stW_small F men k) (bestW F men (F.heaps.length - k) (stW F men k).1).plan
    intro i
    have := this i
    simp only [stW]
    omega
theorem bestW_plan {F : Work} (hn : F.rain.length ≤ 8) (men : Int) : ∀ r B, 0 < r → ∀ j, j < 3 → -1 ≤ (bestW F men r B).plan.at j ∧ (bestW F men r B).plan.at j ≤ 7
  | 0, _, h => absurd h (by omega)
  | r + 1, B, _ => by
    have hm := wayL_mem (l := waysW F men (F.heaps.length - (r + 1)) B (fun C => (bestW F men r C).sods) (sureF selW F (F.heaps.length - (r + 1)))) (by simp [waysW])
    intro j hj
    show -1 ≤ (wayL _).plan.at j ∧ (wayL _).plan.at j ≤ 7
    rcases List.mem_cons.1 hm with e | hm'
    · rw [e]
      obtain rfl | rfl | rfl : j = 0 ∨ j = 1 ∨ j = 2 := by omega
      all_goals (show (-1 : Int) ≤ -1 ∧ (-1 : Int) ≤ 7; omega)
    · obtain ⟨p, hp, e⟩ := List.mem_map.1 hm'
      rw [← e]
      have := whole_days (List.mem_filter.1 (List.mem_filter.1 hp).1).1 j hj
      show -1 ≤ p.at j ∧ p.at j ≤ 7
      omega
def bestP (F : Work) : Int × List T3 × Int := if GoodF F then (bestS F F.men, (stW F F.men F.heaps.length).2, 0) else (0, [], 1)
theorem bestP_ok {F : Work} (h : GoodF F) : bestP F = (bestS F F.men, (stW F F.men F.heaps.length).2, 0) := if_pos h
theorem bestP_bad {F : Work} (h : ¬ GoodF F) : bestP F = (0, [], 1) := if_neg h
def enough (F : Work) (n : Nat) : Prop := ¬ bestS F n < bestS F 3
instance (F : Work) (n : Nat) : Decidable (enough F n) := by unfold enough; infer_instance
def menN (F : Work) : Nat := if enough F 0 then 0 else if enough F 1 then 1 else if enough F 2 then 2 else 3
theorem menN_at {F : Work} {k : Nat} (hk : k ≤ 3) (h : enough F k) (h0 : ∀ j, j < k → ¬ enough F j) : k = menN F := by
  unfold menN
  obtain rfl | rfl | rfl | rfl : k = 0 ∨ k = 1 ∨ k = 2 ∨ k = 3 := by omega
  · rw [if_pos h]
  · rw [if_neg (h0 0 (by omega)), if_pos h]
  · rw [if_neg (h0 0 (by omega)), if_neg (h0 1 (by omega)), if_pos h]
  · rw [if_neg (h0 0 (by omega)), if_neg (h0 1 (by omega)), if_neg (h0 2 (by omega))]
def menP (F : Work) : Int × Int × Int := if GoodF F then ((menN F : Int), bestS F 3, 0) else (0, 0, 1)
theorem menP_ok {F : Work} (h : GoodF F) : menP F = ((menN F : Int), bestS F 3, 0) := if_pos h
theorem menP_bad {F : Work} (h : ¬ GoodF F) : menP F = (0, 0, 1) := if_neg h
theorem allRows_nil {F : Work} {V : View} : allRows F [] V := fun _ h => absurd h (by simp)
theorem allRows_add {F : Work} {xs : List Inner} {x : Inner} {V : View} (h : allRows F xs V) (hx : rowD x.1 3 encT (sureF selW F xs.length) V) : allRows F (xs ++ [x]) V := by
  intro k hk
  rw [List.length_append, List.length_singleton] at hk
  by_cases e : k = xs.length
  · subst e
    simpa [List.getD_eq_getElem?_getD] using hx
  · have : (xs ++ [x]).getD k default = xs.getD k default := by
      simp only [List.getD_eq_getElem?_getD]; rw [List.getElem?_append_left (by omega)]
    rw [this]; exact h k (by omega)
theorem Rows_add {F : Work} {xs : List Inner} {x : Inner} (h : Rows F xs) (hl : xs.length < F.heaps.length) (hx : x.2.1 = (sureF selW F xs.length).length) : Rows F (xs ++ [x]) := by
  refine ⟨by simp; omega, fun k hk => ?_⟩
  rw [List.length_append, List.length_singleton] at hk
  by_cases e : k = xs.length
  · subst e
    simpa [List.getD_eq_getElem?_getD] using hx
  · have : (xs ++ [x]).getD k default = xs.getD k default := by
      simp only [List.getD_eq_getElem?_getD]; rw [List.getElem?_append_left (by omega)]
    rw [this]; exact h.2 k (by omega)
theorem oneT (t : T3) : oneCells (encT t) = true := rfl
end Foot4


namespace Go.Proofs.Ytienjlmnakbfmaa
open Go.G Foot4
set_option maxRecDepth 1000000
attribute [local irreducible] G.ParO G.Fin
theorem best1_m (F : Work) (ro ho : Option Addr) (rc hc : Nat) (fb : Nat) (men : Int) (hg : GoodF F) (b1 b2 b3 b4 b5 b6 mb : Nat) (sa : Option Addr) (sc : Nat) (xs : List Inner) (hxl : xs.length = F.heaps.length) (hR : Foot4.Rows F xs) : ∀ (r hp : Nat) (C : List Int), hp + r = F.heaps.length → C.length = 8 → Small C (3 * hp) → FnM Try.prog 96 [keyL hp C, pt b1 0, pt b2 0, pt b3 0, pt b4 0, pt b5 0, pt b6 0] (memo Try.prog 115 (okW F men) mb) [boxF b1 81 [pt fb 0], boxF b2 141 [.map (some mb)], boxF b3 112 [.func (.func 96) #[] #[pt b1 0, pt b2 0, pt b3 0, pt b4 0, pt b5 0, pt b6 0]], boxF b4 27 [i64 (-1), i64 (-1), i64 (-1)], boxF b5 140 [.slice sa xs.length sc], boxF b6 3 [i64 men], rowD sa 1 encO xs, allRows F xs, boxF fb 126 (cellsF F ro rc ho hc), rowD ro 2 encS F.rain, rowD ho 3 encH F.heaps] (fun u => u = valWay (bestW F men r C))
  | 0, hp, C, h1, h2, h3 => best1_0 F ro ho rc hc fb men hg b1 b2 b3 b4 b5 b6 mb sa sc xs hxl hR hp h1 C h2 h3
  | r + 1, hp, C, h1, h2, h3 => best1_s F ro ho rc hc fb men hg b1 b2 b3 b4 b5 b6 mb sa sc xs hxl hR r (best1_m F ro ho rc hc fb men hg b1 b2 b3 b4 b5 b6 mb sa sc xs hxl hR r) hp h1 C h2 h3
theorem sure_n (F : Work) (ro ho : Option Addr) (rc hc : Nat) (fb k : Nat) (h : k < F.heaps.length) (hb : Bnd F) : FnR Try.prog 60 [pt fb 0, i64 (k : Int), wetT.i] [boxF fb 126 (cellsF F ro rc ho hc), rowD ro 2 encS F.rain, rowD ho 3 encH F.heaps] (isSl (sureF selW F k).length) (fun v => [rowD (adr v) 3 encT (sureF selW F k)]) := sure_fr wetT F ro ho rc hc fb (k : Int) (by omega) (by omega) hb
theorem encO_len (x : Inner) : (encO x).length = 1 := rfl
set_option maxHeartbeats 4000000 in
theorem best_s (F : Work) (ro ho : Option Addr) (rc hc : Nat) (fb : Nat) (men : Int) (hg : GoodF F) : FnS Try.prog 74 [pt fb 0, i64 men] [] [boxF fb 126 (cellsF F ro rc ho hc), rowD ro 2 encS F.rain, rowD ho 3 encH F.heaps] (fun e M' R' => ∃ v m, e = .returned v ∧ M' = [m] ∧ FnOk Try.prog (domW F) keyW (ansW F men) v m R') := by
  have hb := hg.bnd
  have hl3 := hg.2.2.1
  refine FnS.intro0 Try.call74 Try.func74 rfl Try.ntmps74 rfl ?_
  intro W M Rf
  refine r_seq ?_
  refine r_region ?_
  refine o_box1 rfl rfl rfl rfl rfl rfl (fun b2 => ?_)
  refine o_box1 rfl rfl rfl rfl rfl rfl (fun b3 => ?_)
  refine o_q _ rfl rfl rfl (v_assign rfl rfl) ?_
  refine o_nil ?_
  with_reducible refine r_then ?_
  refine r_seq ?_
  refine r_region ?_
  refine o_q _ rfl rfl rfl (v_bA rfl Try.underlying27 inf27 inf3 rfl rfl rfl (by repeat (first | exact trivial | refine ⟨rfl, ?_⟩)) (by rfl)) ?_
  refine o_alloc rfl inf27 rfl rfl rfl rfl rfl (fun b5 => ?_)
  refine o_st rfl inf27 rfl rfl rfl rfl rfl rfl rfl rfl ?_
  refine o_nil ?_
  with_reducible refine r_then ?_
  refine r_seq ?_
  refine Imp.box_to b5 [i64 (-1), i64 (-1), i64 (-1)] rfl ?_
  refine Imp.sealB b5 ?_
  refine Imp.sealB b3 ?_
  refine Imp.sealB b2 ?_
  refine r_region ?_
  refine o_alloc rfl inf140 rfl rfl rfl rfl rfl (fun b6 => ?_)
  refine o_nil ?_
  with_reducible refine r_then ?_
  refine r_seq ?_
  refine r_seq ?_
  refine Imp.nilL 40 1 encO ?_
  refine Imp.derive (ψ := allRows F []) ?_ (fun V _ => allRows_nil)
  refine r_region ?_
  refine o_q _ rfl rfl rfl (v_lf1 rfl Try.underlying81 rfl rfl rfl) ?_
  refine o_q _ rfl rfl rfl (v_nilCheck rfl rfl) ?_
  refine o_q _ rfl rfl rfl (v_fieldAddr rfl Try.underlying126 inf26 rfl rfl rfl rfl) ?_
  refine o_q _ rfl rfl rfl (v_fieldAddr rfl Try.underlying26 inf24 rfl rfl rfl rfl) ?_
  refine o_q _ rfl rfl rfl (v_lf1 rfl Try.underlying24 rfl rfl rfl) ?_
  refine o_q _ rfl rfl rfl (v_len rfl rfl Try.underlying24 rfl) ?_
  refine o_q _ rfl rfl rfl (v_move rfl rfl) ?_
  refine o_nil ?_
  with_reducible refine r_then ?_
  refine r_block ?_
  refine r_loop (ι := Nat × Value × List Inner) (fun gh => gh.1 ≤ F.heaps.length ∧ gh.2.2.length = gh.1 ∧ Foot4.Rows F gh.2.2) (fun gh => [(2, pt b2 0), (3, pt b3 0), (5, pt b5 0), (6, pt b6 0), (16, i64 F.heaps.length), (17, i64 gh.1)]) (fun gh => ownL gh.2.1 40 1 encO gh.2.2 :: bx b6 140 [gh.2.1] :: M) (fun gh => allRows F gh.2.2 :: boxF b5 27 [i64 (-1), i64 (-1), i64 (-1)] :: boxF b3 3 [i64 men] :: boxF b2 81 [pt fb 0] :: ([boxF fb 126 (cellsF F ro rc ho hc), rowD ro 2 encS F.rain, rowD ho 3 encH F.heaps] ++ Rf)) (fun gh => F.heaps.length - gh.1) (0, .slice none 0 0, []) ?_ ?_ ?_
  ·
    refine Imp.box_to b6 [.slice none 0 0] rfl ?_
    exact r_here (by repeat (first | exact FSub.nil | refine FSub.cons rfl ?_)) SelMC.sel SubRC.sub
  ·
    exact ⟨Nat.zero_le _, rfl, Nat.zero_le _, fun h hh => absurd hh (by simp)⟩
  ·
    rintro ⟨k, v, xs⟩ hI0
    dsimp only at hI0
    dsimp only
    have hR := hI0.2.2
    have hlx : xs.length = k := hI0.2.1
    have hkl : k ≤ F.heaps.length := hI0.1
    refine r_seq ?_
    refine r_region ?_
    refine o_q _ rfl rfl rfl (v_lss rfl rfl rfl) ?_
    refine o_nil ?_
    with_reducible refine r_then ?_
    refine r_seq ?_
    refine r_condd rfl (fun hc18 => ?_) (fun hc18 => ?_)
    ·
      refine r_skip ?_
      with_reducible refine r_then ?_
      refine r_seq ?_
      refine r_block ?_
      refine r_seq ?_
      refine r_region ?_
      refine o_q _ rfl rfl rfl (v_move rfl rfl) ?_
      refine o_q _ rfl rfl rfl (v_assign rfl rfl) ?_
      refine o_nil ?_
      with_reducible refine r_then ?_
      refine r_par' 7 mixed (by kernel_rfl) (by rfl) ?_
      refine p_q _ rfl rfl rfl (fun _ _ => v_ld1 rfl Try.underlying140 rfl rfl rfl) ?_
      refine p_q _ rfl rfl rfl (fun _ _ => v_lf1 rfl Try.underlying81 rfl rfl rfl) ?_
      refine p_q _ rfl rfl rfl (fun _ _ => v_move rfl rfl) ?_
      refine p_q _ rfl rfl rfl (fun _ _ => v_bS0 rfl Try.underlying90 inf90 plt90 rfl rfl) ?_
      refine p_q _ rfl rfl rfl (fun _ _ => v_makeIface rfl Try.underlying90 rfl rfl) ?_
      refine p_fn (sure_n F ro ho rc hc fb k (by omega) hb) rfl rfl rfl rfl rfl SubRC.sub ?_
      refine p_acc (by simp only [List.nil_append, List.cons_append]; rfl) ?_
      refine p_depSl 5 rfl rfl (by kernel_rfl) rfl rfl rfl rfl rfl Try.underlying140 inf40 rfl rfl ?_
      refine p_nil2 (by simp only [List.nil_append, List.cons_append]; rfl) rfl ?_
      refine f_q rfl ?_
      refine f_q rfl ?_
      refine f_q rfl ?_
      refine f_q rfl ?_
      refine f_q rfl ?_
      refine f_gf rfl (fun v25 hv25 => ?_)
      refine f_slsl rfl (fun b26 => ?_)
      refine f_nil ?_
      refine Imp.slF (b := b26) (e := 40) (m := (sureF selW F k).length) (sz := 3) (enc := encT) (ys := (sureF selW F k)) (fun oa cp => ?_)
      refine o_app1F (((oa, (sureF selW F k).length, cp) : Inner)) rfl Try.underlying140 inf40 rfl (by rfl) (by rfl) rfl rfl rfl rfl rfl (by rfl) (by rfl) (by rfl) (by first | omega | (constructor <;> first | omega | decide)) (fun v27 => ?_)
      refine Imp.own_is v27 (fun hs27 => ?_)
      obtain ⟨oa27, cp27, rfl⟩ := hs27
      refine o_st rfl inf140 rfl rfl rfl rfl rfl rfl rfl rfl ?_
      refine o_nil ?_
      with_reducible refine r_in_normal ?_; refine r_then ?_
      refine r_region ?_
      refine o_q _ rfl rfl rfl (v_add rfl rfl rfl (by omega)) ?_
      refine o_q _ rfl rfl rfl (v_move rfl rfl) ?_
      refine o_nil ?_
      with_reducible refine r_then ?_
      exact r_next ((k + 1, .slice oa27 (xs ++ [(oa, (sureF selW F k).length, cp)]).length cp27, xs ++ [(oa, (sureF selW F k).length, cp)])) (by refine Imp.box_to b6 [.slice oa27 (xs ++ [(oa, (sureF selW F k).length, cp)]).length cp27] rfl ?_; refine Imp.derive (ψ := allRows F (xs ++ [(oa, (sureF selW F k).length, cp)])) ?_ (fun V hV => allRows_add (hV (allRows F xs) InR.mem) (by rw [hlx]; exact hV (rowD oa 3 encT (sureF selW F k)) InR.mem)); exact r_here (by repeat (first | exact FSub.nil | refine FSub.cons rfl ?_)) SelMC.sel SubRC.sub) (by exact ⟨by show k + 1 ≤ _; omega, by simp [hlx], Rows_add hR (by omega) (by rw [hlx])⟩) (by show _ - (k + 1) < _ - k; omega)
    ·
      refine r_exit ?_
      with_reducible refine r_then_exit ?_; refine r_then_exit ?_; refine r_in_here ?_; refine r_then ?_
      refine r_seq ?_
      refine Imp.settleS v encO_len (fun sa sc hv => ?_)
      subst hv
      have hxl : xs.length = F.heaps.length := by omega
      refine Imp.box_to b6 [.slice sa xs.length sc] rfl ?_
      refine Imp.sealB b6 ?_
      refine r_region ?_
      refine o_makeMap (k := 115) (okW F men) rfl rfl rfl rfl (fun mb => ?_)
      refine o_alloc rfl inf141 rfl rfl rfl rfl rfl (fun b8 => ?_)
      refine o_st rfl inf141 rfl rfl rfl rfl rfl rfl rfl rfl ?_
      refine o_nil ?_
      with_reducible refine r_then ?_
      refine r_seq ?_
      refine Imp.box_to b8 [.map (some mb)] rfl ?_
      refine Imp.sealB b8 ?_
      refine r_region ?_
      refine o_alloc rfl inf112 rfl rfl rfl rfl rfl (fun b9 => ?_)
      refine o_nil ?_
      with_reducible refine r_then ?_
      refine r_seq ?_
      refine r_region ?_
      refine o_q _ rfl rfl rfl (v_makeFunc rfl rfl rfl) ?_
      refine o_st rfl inf112 rfl rfl rfl rfl rfl rfl rfl rfl ?_
      refine o_nil ?_
      with_reducible refine r_then ?_
      refine r_seq ?_
      refine Imp.box_to b9 [.func (.func 96) #[] #[pt b2 0, pt b8 0, pt b9 0, pt b5 0, pt b6 0, pt b3 0]] rfl ?_
      refine Imp.sealB b9 ?_
      refine r_region ?_
      refine o_q _ rfl rfl rfl (v_lf1 rfl Try.underlying112 rfl rfl rfl) ?_
      refine o_q _ rfl rfl rfl (v_assign rfl rfl) ?_
      refine o_nil ?_
      with_reducible refine r_then ?_
      refine r_ret ?_
      exact r_rete [memo Try.prog 115 (okW F men) mb] [boxF b2 81 [pt fb 0], boxF b8 141 [.map (some mb)], boxF b9 112 [.func (.func 96) #[] #[pt b2 0, pt b8 0, pt b9 0, pt b5 0, pt b6 0, pt b3 0]], boxF b5 27 [i64 (-1), i64 (-1), i64 (-1)], boxF b6 140 [.slice sa xs.length sc], boxF b3 3 [i64 men], rowD sa 1 encO xs, allRows F xs, boxF fb 126 (cellsF F ro rc ho hc), rowD ro 2 encS F.rain, rowD ho 3 encH F.heaps] (Rd.tmp rfl rfl) ⟨_, _, rfl, rfl, _, [pt b2 0, pt b8 0, pt b9 0, pt b5 0, pt b6 0, pt b3 0], rfl, fun x hx => best1_m F ro ho rc hc fb men hg b2 b8 b9 b5 b6 b3 mb sa sc xs hxl hR x.2.1 x.1 x.2.2 hx.1 hx.2.1 hx.2.2⟩ SelMC.sel (SubR.append SubRC.sub SubRC.sub)
theorem oneCells_cons (x : Int) (xs : List Int) : oneCells (i64 x :: xs.map iv) = true := oneCells_map (x :: xs)
set_option maxHeartbeats 4000000 in
theorem Best_s (F : Work) (ro ho : Option Addr) (rc hc : Nat) (hr : F.rain.length ≤ 40) (hh : F.heaps.length ≤ 40) : FnS Try.prog 26 [valF F ro rc ho hc] [] [rowD ro 2 encS F.rain, rowD ho 3 encH F.heaps] (fun e M' R' => ∃ v, e = .returned (.tuple #[i64 (bestP F).1, v, i64 (bestP F).2.2]) ∧ M' = [ownL v 27 3 encT (bestP F).2.1] ∧ R' = []) := by
  refine FnS.introD0 Try.call26 Try.func26 rfl Try.ntmps26 rfl ?_
  intro W M Rf
  refine r_seq ?_
  refine r_region ?_
  refine o_boxA rfl rfl rfl rfl rfl (fun b1 => ?_)
  refine o_q _ rfl rfl rfl (v_assign rfl rfl) ?_
  refine o_q _ rfl rfl rfl (v_assign rfl rfl) ?_
  refine o_alloc rfl inf32 rfl rfl rfl rfl rfl (fun b4 => ?_)
  refine o_nil ?_
  with_reducible refine r_then ?_
  refine r_seq ?_
  refine r_region ?_
  refine o_defer rfl rfl rfl rfl ?_
  refine o_nil ?_
  with_reducible refine r_then ?_
  refine r_seq ?_
  refine Imp.sealB b1 ?_
  refine r_region ?_
  refine o_q _ rfl rfl rfl (v_lfW rfl Try.underlying26 rfl inf26 rfl rfl) ?_
  by_cases hg : GoodF F
  all_goals
    first | refine o_fnp (open_ok F ro ho rc hc hr hh hg) rfl rfl rfl rfl rfl SubRC.sub (fun fb => ?_) | refine o_fnx (open_x F ro ho rc hc _ hr hh (by exact chk_ne hg)) rfl rfl rfl SubRC.sub ?_
    all_goals
      repeat (first | with_reducible refine r_then_panic ?_)
      try (refine Imp.nilL 27 3 encT ?_; exact d_pane [ownL (.slice none 0 0) 27 3 encT []] [] answer_ans (Rd.three rfl (RdI.tmp rfl) (RdI.tmp rfl) (RdI.cell1 Try.underlying32 rfl rfl rfl)) (by rw [bestP_bad hg]; exact ⟨_, by rw [chk_1 hg], rfl, rfl⟩) SelMC.sel SubRC.sub)
      all_goals
        refine o_q _ rfl rfl rfl (v_assign rfl rfl) ?_
        refine o_nil ?_
        with_reducible refine r_then ?_
        refine r_seq ?_
        have hb := hg.bnd
        have hl3 := hg.2.2.1
        refine r_region ?_
        refine o_q _ rfl rfl rfl (v_move rfl rfl) ?_
        refine o_q _ rfl rfl rfl (v_fieldAddr rfl Try.underlying26 inf3 rfl rfl rfl rfl) ?_
        refine o_q _ rfl rfl rfl (v_lf1 rfl Try.underlying3 rfl rfl rfl) ?_
        refine o_fnk (best_s F ro ho rc hc fb F.men hg) rfl rfl rfl rfl rfl SubRC.sub (fun kk caps m Rs hk => ?_)
        all_goals
          refine o_q _ rfl rfl rfl (v_assign rfl rfl) ?_
          refine o_nil ?_
          with_reducible refine r_then ?_
          refine r_seq ?_
          refine r_region ?_
          refine o_alloc rfl inf115 rfl rfl rfl rfl rfl (fun b7 => ?_)
          refine o_nil ?_
          with_reducible refine r_then ?_
          refine r_seq ?_
          refine r_region ?_
          refine o_q _ rfl rfl rfl (v_fieldAddr rfl Try.underlying26 inf24 rfl rfl rfl rfl) ?_
          refine o_q _ rfl rfl rfl (v_lf1 rfl Try.underlying24 rfl rfl rfl) ?_
          refine o_q _ rfl rfl rfl (v_len rfl rfl Try.underlying24 rfl) ?_
          refine o_make (enc := encT) (sz := 3) (⟨0, 0, 0⟩ : T3) rfl Try.underlying40 inf27 rfl rfl rfl rfl rfl rfl rfl (l := 0) rfl rfl (by omega) (by constructor <;> first | omega | decide) (fun b21 => ?_)
          all_goals
            refine o_q _ rfl rfl rfl (v_assign rfl rfl) ?_
            refine o_nil ?_
            with_reducible refine r_then ?_
            refine r_seq ?_
            refine r_region ?_
            refine o_q _ rfl rfl rfl (v_move rfl rfl) ?_
            refine o_q _ rfl rfl rfl (v_ldW rfl Try.underlying115 rfl inf115 rfl rfl) ?_
            refine o_q _ rfl rfl rfl (OpQ.fnm (hk (0, F.heaps.length, zeros) ⟨by simp, rfl, small_zeros _ (by simp)⟩) rfl [] caps rfl rfl rfl SubRC.sub) ?_
            refine o_q _ rfl rfl rfl (v_field rfl Try.underlying117 Try.underlying3 inf3 rfl rfl rfl rfl) ?_
            refine o_q _ rfl rfl rfl (v_assign rfl rfl) ?_
            refine o_nil ?_
            with_reducible refine r_then ?_
            refine r_seq ?_
            refine r_block ?_
            refine r_loop (ι := Nat × Value) (fun gh => gh.1 ≤ F.heaps.length) (fun gh => [(1, pt b1 0), (4, pt b4 0), (6, .func (.func kk) #[] caps.toArray), (7, pt b7 0), (8, gh.2), (9, i64 (bestS F F.men))]) (fun gh => ownL gh.2 27 3 encT (stW F F.men gh.1).2 :: bx b7 115 (i64 ((gh.1 : Nat) : Int) :: (stW F F.men gh.1).1.map iv) :: bx b4 32 [i64 0] :: m :: M) (fun gh => Rs ++ (boxF fb 126 (cellsF F ro rc ho hc) :: boxF b1 26 (cellsF F ro rc ho hc) :: ([rowD ro 2 encS F.rain, rowD ho 3 encH F.heaps] ++ Rf))) (fun gh => F.heaps.length - gh.1) (0, .slice (some ⟨b21, 0, none⟩) 0 F.heaps.length) ?_ ?_ ?_
            ·
              refine Imp.own_to (.slice (some ⟨b21, 0, none⟩) 0 F.heaps.length) (stW F F.men 0).2 rfl ?_
              refine Imp.box_to b7 (i64 ((0 : Nat) : Int) :: (stW F F.men 0).1.map iv) rfl ?_
              refine Imp.box_to b4 [i64 0] rfl ?_
              exact r_here (by repeat (first | exact FSub.nil | refine FSub.cons rfl ?_)) SelMC.sel SubRC.sub
            ·
              exact Nat.zero_le _
            ·
              rintro ⟨k, v⟩ hI0
              dsimp only at hI0
              dsimp only
              have hI : k ≤ F.heaps.length := hI0
              have hsl := (stW_len F F.men k).2
              refine r_seq ?_
              refine r_seq ?_
              refine r_region ?_
              refine o_q _ rfl rfl rfl (v_fieldAddr rfl Try.underlying115 inf3 rfl rfl rfl rfl) ?_
              refine o_q _ rfl rfl rfl (v_ld1 rfl Try.underlying3 rfl rfl rfl) ?_
              refine o_q _ rfl rfl rfl (v_fieldAddr rfl Try.underlying26 inf24 rfl rfl rfl rfl) ?_
              refine o_q _ rfl rfl rfl (v_lf1 rfl Try.underlying24 rfl rfl rfl) ?_
              refine o_q _ rfl rfl rfl (v_len rfl rfl Try.underlying24 rfl) ?_
              refine o_q _ rfl rfl rfl (v_lss rfl rfl rfl) ?_
              refine o_nil ?_
              with_reducible refine r_then ?_
              refine r_condd rfl (fun hc31 => ?_) (fun hc31 => ?_)
              ·
                refine r_skip ?_
                with_reducible refine r_then ?_
                refine r_block ?_
                refine r_seq ?_
                refine r_region ?_
                refine o_q _ rfl rfl rfl (v_move rfl rfl) ?_
                refine o_q _ rfl rfl rfl (v_ldW rfl Try.underlying115 rfl inf115 rfl (by rw [List.length_cons, List.length_map, (stW_len F F.men k).1]; rfl)) ?_
                refine o_q _ rfl rfl rfl (OpQ.fnm (hk (k, F.heaps.length - k, (stW F F.men k).1) ⟨by show k + (F.heaps.length - k) = _; omega, (stW_len F F.men k).1, stW_small F F.men k⟩) rfl [] caps rfl rfl rfl SubRC.sub) ?_
                refine o_alloc rfl inf117 rfl rfl rfl rfl rfl (fun b10 => ?_)
                refine o_st rfl inf117 rfl rfl rfl rfl rfl rfl rfl rfl ?_
                refine o_nil ?_
                with_reducible refine r_then ?_
                refine r_seq ?_
                refine r_region ?_
                refine o_q _ rfl rfl rfl (v_move rfl rfl) ?_
                refine o_q _ rfl rfl rfl (v_fieldAddr rfl Try.underlying117 inf27 rfl rfl rfl rfl) ?_
                refine o_q _ rfl rfl rfl (v_ldN rfl Try.underlying27 rfl inf27 rfl rfl rfl) ?_
                refine o_lit rfl Try.underlying40 inf27 rfl rfl rfl rfl rfl rfl rfl rfl (by repeat (first | exact trivial | refine ⟨rfl, ?_⟩)) (by rfl) (fun b38 => ?_)
                refine o_app1 ((bestW F F.men (F.heaps.length - k) (stW F F.men k).1).plan) rfl Try.underlying40 inf27 rfl (by rfl) (by rfl) rfl rfl rfl rfl rfl (by rfl) (by rfl) (by rfl) (by first | omega | (constructor <;> first | omega | decide)) (fun v39 => ?_)
                refine o_q _ rfl rfl rfl (v_assign rfl rfl) ?_
                refine o_nil ?_
                with_reducible refine r_then ?_
                refine r_par' 8 mixed (by kernel_rfl) (by rfl) ?_
                refine p_q _ rfl rfl rfl (fun _ _ => v_fieldAddr rfl Try.underlying115 inf3 rfl rfl rfl rfl) ?_
                refine p_q _ rfl rfl rfl (fun _ _ => v_ld1 rfl Try.underlying3 rfl rfl rfl) ?_
                refine p_q _ rfl rfl rfl (fun _ _ => v_add rfl rfl rfl (by omega)) ?_
                refine p_q _ rfl rfl rfl (fun _ _ => v_fieldAddr rfl Try.underlying115 inf107 rfl rfl rfl rfl) ?_
                refine p_q _ rfl rfl rfl (fun _ _ => v_ldN (us := (stW F F.men k).1.map iv) rfl Try.underlying107 rfl inf107 rfl (take8 (stW_len F F.men k).1) (by rw [List.length_map, (stW_len F F.men k).1]; rfl)) ?_
                refine p_q _ rfl rfl rfl (fun _ _ => v_fieldAddr rfl Try.underlying117 inf27 rfl rfl rfl rfl) ?_
                refine p_q _ rfl rfl rfl (fun _ _ => v_ldN rfl Try.underlying27 rfl inf27 rfl rfl rfl) ?_
                refine p_q _ rfl rfl rfl (fun _ _ => OpQ.fn (with_v (stW F F.men k).1 _ _ _ (stW_len F F.men k).1 (fun i => by have := stW_small F F.men k i; omega) (fun j hj => (bestW_plan hb.len F.men (F.heaps.length - k) (stW F F.men k).1 (by omega) j hj).2)) rfl rfl SubRC.sub) ?_
                refine p_nil2 (by simp only [List.nil_append, List.cons_append]; rfl) rfl ?_
                refine f_q rfl ?_
                refine f_q rfl ?_
                refine f_q rfl ?_
                refine f_q rfl ?_
                refine f_q rfl ?_
                refine f_q rfl ?_
                refine f_q rfl ?_
                refine f_q rfl ?_
                refine f_nil ?_
                refine o_q _ rfl rfl rfl (mk115 rfl rfl rfl (by rw [with_len, (stW_len F F.men k).1])) ?_
                refine o_st (B := 115) (vs := (i64 ((k : Nat) : Int) :: (stW F F.men k).1.map iv)) (us := i64 ((k + 1 : Nat) : Int) :: (with_ (stW F F.men k).1 (bestW F F.men (F.heaps.length - k) (stW F F.men k).1).plan).map iv) rfl inf115 rfl rfl rfl rfl rfl (by rw [List.length_cons, List.length_map, with_len, (stW_len F F.men k).1]; rfl) (oneCells_cons _ _) (by rw [List.length_cons, List.length_cons, List.length_map, List.length_map, with_len]; simp [(stW_len F F.men k).1]) ?_
                refine o_nil ?_
                with_reducible refine r_in_normal ?_; refine r_then ?_
                exact r_next ((k + 1, v39)) (by refine Imp.box_to b7 (i64 (((k + 1) : Nat) : Int) :: (stW F F.men (k + 1)).1.map iv) (by show splice _ 0 _ = _; rw [splice_all (by rw [List.length_cons, List.length_cons, List.length_map, List.length_map, with_len])]; rfl) ?_; refine Imp.own_to v39 (stW F F.men (k + 1)).2 rfl ?_; exact r_here (by repeat (first | exact FSub.nil | refine FSub.cons rfl ?_)) SelMC.sel SubRC.sub) (by first | omega | (show _ + 1 ≤ _; omega)) (by first | omega | (show _ - (_ + 1) < _ - _; omega))
              ·
                refine r_exit ?_
                with_reducible refine r_then_exit ?_; refine r_then_exit ?_; refine r_in_here ?_; refine r_then ?_
                refine r_seq ?_
                refine Imp.own_to v (stW F F.men F.heaps.length).2 (by rw [show k = F.heaps.length from by omega]) ?_
                refine Imp.settleS v encT_len (fun oa cp hv => ?_)
                subst hv
                have hsl := (stW_len F F.men F.heaps.length).2
                refine r_region ?_
                refine o_q _ rfl rfl rfl (v_move rfl rfl) ?_
                refine o_q _ rfl rfl rfl (v_len rfl rfl Try.underlying40 rfl) ?_
                refine o_make (enc := encT) (sz := 3) (⟨0, 0, 0⟩ : T3) rfl Try.underlying40 inf27 rfl rfl rfl rfl rfl rfl rfl rfl rfl (by omega) (by constructor <;> first | omega | decide) (fun b51 => ?_)
                all_goals
                  refine o_q _ rfl rfl rfl (v_assign rfl rfl) ?_
                  refine o_nil ?_
                  with_reducible refine r_then ?_
                  refine r_seq ?_
                  refine r_region ?_
                  refine o_q _ rfl rfl rfl (v_move rfl rfl) ?_
                  refine o_q _ rfl rfl rfl (v_move rfl rfl) ?_
                  refine o_copy (enc := encT) (sz := 3) (xs := List.replicate (stW F F.men F.heaps.length).2.length ⟨0, 0, 0⟩) (ys := (stW F F.men F.heaps.length).2) rfl Try.underlying40 inf27 rfl rfl rfl rfl encT_len oneT rfl rfl rfl (by simp) ?_
                  all_goals
                    refine o_nil ?_
                    with_reducible refine r_then ?_
                    refine r_seq ?_
                    refine r_region ?_
                    refine o_q _ rfl rfl rfl (v_move rfl rfl) ?_
                    refine o_q _ rfl rfl rfl (v_move rfl rfl) ?_
                    refine o_q _ rfl rfl rfl (v_assign rfl rfl) ?_
                    refine o_q _ rfl rfl rfl (v_assign rfl rfl) ?_
                    refine o_st rfl inf32 rfl rfl rfl rfl rfl rfl rfl rfl ?_
                    refine o_nil ?_
                    with_reducible refine r_then ?_
                    refine r_ret ?_
                    exact d_rete [ownL (.slice (some ⟨b51, 0, none⟩) (stW F F.men F.heaps.length).2.length (stW F F.men F.heaps.length).2.length) 27 3 encT (stW F F.men F.heaps.length).2] [] answer_ans (Rd.three rfl (RdI.tmp rfl) (RdI.tmp rfl) (RdI.cell1 Try.underlying32 rfl rfl rfl)) (by rw [bestP_ok hg]; exact ⟨_, rfl, rfl, rfl⟩) SelMC.sel SubRC.sub
theorem men_lt {F : Work} {k : Nat} (h : k ≤ 3) (hx : bestS F (k : Int) < bestS F 3) : k + 1 ≤ 3 := by
  have : k ≠ 3 := fun e => by subst e; exact absurd hx (Int.lt_irrefl _)
  omega
set_option maxHeartbeats 4000000 in
theorem Men_v (F : Work) (ro ho : Option Addr) (rc hc : Nat) (hr : F.rain.length ≤ 40) (hh : F.heaps.length ≤ 40) : FnV Try.prog 28 [valF F ro rc ho hc] [rowD ro 2 encS F.rain, rowD ho 3 encH F.heaps] (.tuple #[i64 (menP F).1, i64 (menP F).2.1, i64 (menP F).2.2]) := by
  refine FnV.introD Try.call28 Try.func28 rfl Try.ntmps28 rfl ?_
  intro W M Rf
  refine r_seq ?_
  refine r_region ?_
  refine o_boxA rfl rfl rfl rfl rfl (fun b1 => ?_)
  refine o_q _ rfl rfl rfl (v_assign rfl rfl) ?_
  refine o_q _ rfl rfl rfl (v_assign rfl rfl) ?_
  refine o_alloc rfl inf32 rfl rfl rfl rfl rfl (fun b4 => ?_)
  refine o_nil ?_
  with_reducible refine r_then ?_
  refine r_seq ?_
  refine r_region ?_
  refine o_defer rfl rfl rfl rfl ?_
  refine o_nil ?_
  with_reducible refine r_then ?_
  refine r_seq ?_
  refine Imp.sealB b1 ?_
  refine r_region ?_
  refine o_q _ rfl rfl rfl (v_lfW rfl Try.underlying26 rfl inf26 rfl rfl) ?_
  by_cases hg : GoodF F
  all_goals
    first | refine o_fnp (open_ok F ro ho rc hc hr hh hg) rfl rfl rfl rfl rfl SubRC.sub (fun fb => ?_) | refine o_fnx (open_x F ro ho rc hc _ hr hh (by exact chk_ne hg)) rfl rfl rfl SubRC.sub ?_
    all_goals
      repeat (first | with_reducible refine r_then_panic ?_)
      try ((rw [menP_bad hg]; exact d_panv answer_ans (Rd.three rfl (RdI.tmp rfl) (RdI.tmp rfl) (RdI.cell1 Try.underlying32 rfl rfl rfl)) (by rw [chk_1 hg]) SelMC.sel SubRC.sub))
      all_goals
        refine o_q _ rfl rfl rfl (v_assign rfl rfl) ?_
        refine o_nil ?_
        with_reducible refine r_then ?_
        refine r_seq ?_
        have hb := hg.bnd
        have hl3 := hg.2.2.1
        refine r_region ?_
        refine o_q _ rfl rfl rfl (v_move rfl rfl) ?_
        refine o_fnk (best_s F ro ho rc hc fb 3 hg) rfl rfl rfl rfl rfl SubRC.sub (fun kk caps m Rs hk => ?_)
        all_goals
          refine o_q _ rfl rfl rfl (v_bS0 rfl Try.underlying115 inf115 plt115 rfl rfl) ?_
          refine o_q _ rfl rfl rfl (OpQ.fnm (hk (0, F.heaps.length, zeros) ⟨by simp, rfl, small_zeros _ (by simp)⟩) rfl [] caps rfl rfl rfl SubRC.sub) ?_
          refine o_q _ rfl rfl rfl (v_field rfl Try.underlying117 Try.underlying3 inf3 rfl rfl rfl rfl) ?_
          refine o_q _ rfl rfl rfl (v_assign rfl rfl) ?_
          refine o_nil ?_
          with_reducible refine r_then ?_
          refine r_seq ?_
          refine r_region ?_
          refine o_q _ rfl rfl rfl (v_assign rfl rfl) ?_
          refine o_nil ?_
          with_reducible refine r_then ?_
          refine r_seq ?_
          refine r_block ?_
          refine r_loop (ι := Nat) (fun k => k ≤ 3 ∧ ∀ j, j < k → ¬ enough F j) (fun k => [(1, pt b1 0), (4, pt b4 0), (5, pt fb 0), (6, i64 (bestS F 3)), (7, i64 k)]) (fun k => bx b4 32 [i64 0] :: M) (fun k => boxF fb 126 (cellsF F ro rc ho hc) :: boxF b1 26 (cellsF F ro rc ho hc) :: ([rowD ro 2 encS F.rain, rowD ho 3 encH F.heaps] ++ Rf)) (fun k => 3 - k) 0 ?_ ?_ ?_
          ·
            refine Imp.box_to b4 [i64 0] rfl ?_
            exact r_here (by repeat (first | exact FSub.nil | refine FSub.cons rfl ?_)) SelMC.sel SubRC.sub
          ·
            exact ⟨by omega, fun j hj => absurd hj (by omega)⟩
          ·
            rintro k hI0
            have hI : k ≤ 3 := hI0.1
            refine r_seq ?_
            refine r_seq ?_
            refine r_region ?_
            refine o_q _ rfl rfl rfl (v_move rfl rfl) ?_
            refine o_q _ rfl rfl rfl (v_move rfl rfl) ?_
            refine o_fnk (best_s F ro ho rc hc fb (k : Int) hg) rfl rfl rfl rfl rfl SubRC.sub (fun kk2 caps2 m2 Rs2 hk2 => ?_)
            all_goals
              refine o_q _ rfl rfl rfl (v_bS0 rfl Try.underlying115 inf115 plt115 rfl rfl) ?_
              refine o_q _ rfl rfl rfl (OpQ.fnm (hk2 (0, F.heaps.length, zeros) ⟨by simp, rfl, small_zeros _ (by simp)⟩) rfl [] caps2 rfl rfl rfl SubRC.sub) ?_
              refine o_q _ rfl rfl rfl (v_field rfl Try.underlying117 Try.underlying3 inf3 rfl rfl rfl rfl) ?_
              refine o_q _ rfl rfl rfl (v_move rfl rfl) ?_
              refine o_q _ rfl rfl rfl (v_lss rfl rfl rfl) ?_
              refine o_nil ?_
              with_reducible refine r_then ?_
              refine r_condd rfl (fun hc22 => ?_) (fun hc22 => ?_)
              ·
                refine r_skip ?_
                with_reducible refine r_then ?_
                refine r_block ?_
                refine r_region ?_
                refine o_q _ rfl rfl rfl (v_move rfl rfl) ?_
                refine o_q _ rfl rfl rfl (v_add rfl rfl rfl (by omega)) ?_
                refine o_q _ rfl rfl rfl (v_assign rfl rfl) ?_
                refine o_nil ?_
                with_reducible refine r_in_normal ?_; refine r_then ?_
                refine r_next (k + 1) ?_ ?_ ?_
                ·
                  exact r_here (by repeat (first | exact FSub.nil | refine FSub.cons rfl ?_)) SelMC.sel SubRC.sub
                ·
                  exact ⟨men_lt hI (by assumption), all_step hI0.2 (fun x => x (by assumption))⟩
                ·
                  have := men_lt hI (by assumption)
                  omega
              ·
                refine r_exit ?_
                with_reducible refine r_then_exit ?_; refine r_then_exit ?_; refine r_in_here ?_; refine r_then ?_
                refine r_seq ?_
                refine r_region ?_
                refine o_q _ rfl rfl rfl (v_move rfl rfl) ?_
                refine o_q _ rfl rfl rfl (v_move rfl rfl) ?_
                refine o_q _ rfl rfl rfl (v_assign rfl rfl) ?_
                refine o_q _ rfl rfl rfl (v_assign rfl rfl) ?_
                refine o_st rfl inf32 rfl rfl rfl rfl rfl rfl rfl rfl ?_
                refine o_nil ?_
                with_reducible refine r_then ?_
                refine r_ret ?_
                have hkm := menN_at hI (by assumption) hI0.2
                (rw [menP_ok hg, ← hkm]; exact d_retv answer_ans (Rd.three rfl (RdI.tmp rfl) (RdI.tmp rfl) (RdI.cell1 Try.underlying32 rfl rfl rfl)) rfl SelMC.sel SubRC.sub)
end Go.Proofs.Ytienjlmnakbfmaa


namespace Go.G
variable {P : Program} {W : World} {n : Nat} {D : List Deferred} {L : Tm} {M : List Res} {R : List Fact} {Q : Exit → Act → World → Prop} {o : Oper}
theorem v_neV {t u : TypeId} {x y : Operand} {us vs : Array Value} {r : Bool} (ho : o.op = .binOp .neq t x y u) (hx : ev L x = some (.agg us)) (hy : ev L y = some (.agg vs)) (hg : P.eqGuardType P.depth t = false) (hb : ∀ w, (Op.equal t (.agg us) (.agg vs)).run P w = .ok r w) : OpQ P W n L M R o (.bool (!r)) :=
  OpQ.of_value fun f w h1 _ => by
    have e1 := h1.ev hx
    have e2 := h1.ev hy
    have hb1 : (binOp .neq t (.agg us) (.agg vs)).run P w = .ok (.bool (!r)) w := by
      show Sem.run P (do pure (Value.bool (!(← Op.equal t (.agg us) (.agg vs))))) w = _
      simp only [Sem.run_bind, hb, Result.andThen_ok, Sem.run_pure]
    unfold execOp
    simp [ho, e1, e2, eqGuard, run_program, hg, hb1]
theorem v_neP {t u : TypeId} {x y : Operand} {us vs : Array Value} {p : Prop} [Decidable p] (ho : o.op = .binOp .neq t x y u) (hx : ev L x = some (.agg us)) (hy : ev L y = some (.agg vs)) (hg : P.eqGuardType P.depth t = false) (hb : ∀ w, (Op.equal t (.agg us) (.agg vs)).run P w = .ok (decide p) w) : OpQ P W n L M R o (.bool (decide (¬ p))) := by
  have := v_neV (W := W) (n := n) (L := L) (M := M) (R := R) ho hx hy hg hb
  rwa [← decide_not] at this
theorem run_partC {w : World} {t : TypeId} {d : TypeDesc} {us : Array Value} {k : Nat} {v : Value} (hu : P.underlying t = some d) (hd : aggD d = false) (hv : us[k]? = some v) : (part t us k).run P w = .ok v w := by
  have hagg := run_isAgg' (w := w) hu
  rw [hd] at hagg
  simp [part, hagg, hv]
theorem run_partA {w : World} {t : TypeId} {d : TypeDesc} {i : TypeInfo} {us : Array Value} {k : Nat} (hu : P.underlying t = some d) (hd : aggD d = true) (hi : P.info? t = some i) : (part t us k).run P w = .ok (.agg (us.extract k (k + i.size))) w := by
  have hagg := run_isAgg' (w := w) hu
  rw [hd] at hagg
  simp [part, hagg, run_sizeOf' hi]
theorem items_nil {d : Nat} {e : TypeId} {c : Nat} {us vs : Array Value} {w : World} : (Op.eqItems d e c us vs []).run P w = .ok (decide True) w := by simp [Op.eqItems]
theorem items_cons {d : Nat} {e : TypeId} {c : Nat} {us vs : Array Value} {w : World} {i : Nat} {is : List Nat} {a b : Value} {p q : Prop} [Decidable p] [Decidable q] (h1 : (part e us (i * c)).run P w = .ok a w) (h2 : (part e vs (i * c)).run P w = .ok b w) (h3 : (Op.equalIn d e a b).run P w = .ok (decide p) w) (h4 : (Op.eqItems d e c us vs is).run P w = .ok (decide q) w) :
    (Op.eqItems d e c us vs (i :: is)).run P w = .ok (decide (p ∧ q)) w := by
  simp only [Op.eqItems, Sem.run_bind, h1, h2, h3, Result.andThen_ok]
  by_cases hp : p
  · simp [hp, h4]
  · simp [hp]
theorem fields_nil {d : Nat} {us vs : Array Value} {w : World} : (Op.eqFields d us vs []).run P w = .ok (decide True) w := by simp [Op.eqFields]
theorem fields_cons {d : Nat} {us vs : Array Value} {w : World} {f : Field} {fs : List Field} {a b : Value} {p q : Prop} [Decidable p] [Decidable q] (hn : (f.name != "_") = true) (h1 : (part f.type us f.offset).run P w = .ok a w) (h2 : (part f.type vs f.offset).run P w = .ok b w) (h3 : (Op.equalIn d f.type a b).run P w = .ok (decide p) w) (h4 : (Op.eqFields d us vs fs).run P w = .ok (decide q) w) :
    (Op.eqFields d us vs (f :: fs)).run P w = .ok (decide (p ∧ q)) w := by
  have hn' : f.name ≠ "_" := by simpa using hn
  simp only [Op.eqFields, if_pos hn', Sem.run_bind, h1, h2, h3, Result.andThen_ok]
  by_cases hp : p
  · simp [hp, h4]
  · simp [hp]
theorem eq_int {d : Nat} {t : TypeId} {k k' : IntKind} {a b : Int} {w : World} (h : P.underlying t = some (.int k')) : (Op.equalIn (d + 1) t (.int k a) (.int k b)).run P w = .ok (decide (a = b)) w := by
  have e : (a == b) = decide (a = b) := by by_cases h : a = b <;> simp [h]
  rw [← e]; exact run_equalIn_int w d t k k' a b h
theorem eq_struct {d : Nat} {t : TypeId} {us vs : Array Value} {fs : Array Field} {w : World} {p : Prop} [Decidable p] (hu : P.underlying t = some (.struct fs)) (hp : P.stoodInHeld t = false) (h : (Op.eqFields d us vs fs.toList).run P w = .ok (decide p) w) : (Op.equalIn (d + 1) t (.agg us) (.agg vs)).run P w = .ok (decide p) w := by
  have hf : P.fieldsOf t = fs := by simp [Program.fieldsOf, hu]
  rw [run_equalIn_struct w d t us vs (by rw [hf]; exact hu) hp, hf]; exact h
theorem eq_array {d : Nat} {t e : TypeId} {m c : Nat} {i : TypeInfo} {us vs : Array Value} {w : World} {p : Prop} [Decidable p] (hu : P.underlying t = some (.array m e)) (hi : P.info? e = some i) (hc : P.cellsOf e = c) (h : (Op.eqItems d e c us vs (List.range m)).run P w = .ok (decide p) w) : (Op.equalIn (d + 1) t (.agg us) (.agg vs)).run P w = .ok (decide p) w := by
  subst hc
  rw [run_equalIn_array w d us vs hu hi]; exact h
theorem eq_to {t : TypeId} {us vs : Array Value} {p q : Prop} [Decidable p] [Decidable q] (h : ∀ w, (Op.equalIn (9999 + 1) t (.agg us) (.agg vs)).run P w = .ok (decide p) w) (e : p ↔ q) (w : World) : (Op.equal t (.agg us) (.agg vs)).run P w = .ok (decide q) w := by
  rw [← decide_eq_decide.2 e]; exact h w
end Go.G


namespace Go.Proofs.Ytienjlmnakbfmaa
open Go.G Foot4
theorem guard27 : Try.prog.eqGuardType Try.prog.depth 27 = false := by kernel_rfl
theorem guard31 : Try.prog.eqGuardType Try.prog.depth 31 = false := by kernel_rfl
theorem guard73 : Try.prog.eqGuardType Try.prog.depth 73 = false := by kernel_rfl
theorem cells3 : Try.prog.cellsOf 3 = 1 := by kernel_rfl
theorem pc3 {w : World} {us : Array Value} {k : Nat} {v : Value} (h : us[k]? = some v) : (part 3 us k).run Try.prog w = .ok v w := run_partC Try.underlying3 rfl h
theorem eq27 (a b c d e f : Int) (w : World) : (Op.equal 27 (.agg #[i64 a, i64 b, i64 c]) (.agg #[i64 d, i64 e, i64 f])).run Try.prog w = .ok (decide ((⟨a, b, c⟩ : T3) = ⟨d, e, f⟩)) w := by
  refine eq_to (p := a = d ∧ b = e ∧ c = f ∧ True) (fun w => ?_) (by simp) w
  refine eq_array Try.underlying27 inf3 cells3 ?_
  refine items_cons (pc3 rfl) (pc3 rfl) (eq_int Try.underlying3) (items_cons (pc3 rfl) (pc3 rfl) (eq_int Try.underlying3) (items_cons (pc3 rfl) (pc3 rfl) (eq_int Try.underlying3) items_nil))
theorem eqIn31 (dd : Nat) (a b c d : Int) (w : World) : (Op.equalIn (dd + 1 + 1) 31 (.agg #[i64 a, i64 b]) (.agg #[i64 c, i64 d])).run Try.prog w = .ok (decide (a = c ∧ b = d ∧ True)) w := by
  refine eq_struct Try.underlying31 (by kernel_rfl) ?_
  exact fields_cons rfl (pc3 rfl) (pc3 rfl) (eq_int Try.underlying3) (fields_cons rfl (pc3 rfl) (pc3 rfl) (eq_int Try.underlying3) fields_nil)
theorem eq31 (a b c d : Int) (w : World) : (Op.equal 31 (.agg #[i64 a, i64 b]) (.agg #[i64 c, i64 d])).run Try.prog w = .ok (decide ((⟨a, b⟩ : Span) = ⟨c, d⟩)) w :=
  eq_to (fun w => eqIn31 9998 a b c d w) (by simp) w
theorem eq73 (a b c d e f : Int) (w : World) : (Op.equal 73 (.agg #[i64 a, i64 b, i64 c]) (.agg #[i64 d, i64 e, i64 f])).run Try.prog w = .ok (decide ((⟨a, b, c⟩ : Heap) = ⟨d, e, f⟩)) w := by
  refine eq_to (p := (a = d ∧ b = e ∧ True) ∧ c = f ∧ True) (fun w => ?_) (by simp [and_assoc]) w
  refine eq_struct Try.underlying73 (by kernel_rfl) ?_
  exact fields_cons rfl (run_partA Try.underlying31 rfl inf31) (run_partA Try.underlying31 rfl inf31) (eqIn31 9997 a b d e w) (fields_cons rfl (pc3 rfl) (pc3 rfl) (eq_int Try.underlying3) fields_nil)
end Go.Proofs.Ytienjlmnakbfmaa


namespace Foot4
open Go Go.G
def pw : Nat → Int
  | 0 => 1
  | k + 1 => 2 * pw k
/-! ### how many steps of the first heaps there are on a day -/
def cnt (p : T3) (day : Int) : Nat → Int
  | 0 => 0
  | k + 1 => cnt p day k + (if p.at k = day then 1 else 0)
def befH (l : List T3) (day : Int) : Nat → Int
  | 0 => 0
  | h + 1 => befH l day h + cnt (l.getD h default) day 3
theorem cnt_bd (p : T3) (day : Int) : ∀ k : Nat, 0 ≤ cnt p day k ∧ cnt p day k ≤ k
  | 0 => by simp [cnt]
  | k + 1 => by have := cnt_bd p day k; simp only [cnt]; split <;> omega
theorem befH_bd (l : List T3) (day : Int) : ∀ h : Nat, 0 ≤ befH l day h ∧ befH l day h ≤ 3 * h
  | 0 => by simp [befH]
  | h + 1 => by have := befH_bd l day h; have := cnt_bd (l.getD h default) day 3; simp only [befH]; omega
/-! ### a plan as far as it goes -/
def upI (p : T3) (k i : Nat) : T3 := ⟨p.a, if k < 1 ∧ 1 < i then -1 else p.b, if k < 2 ∧ 2 < i then -1 else p.c⟩
def upToP (p : T3) (k : Nat) : T3 := upI p k 3
theorem upTo_at {p : T3} {k : Nat} (hk : k < 3) : ∀ j, j < 3 → (upToP p k).at j = if j ≤ k then p.at j else -1 := by
  intro j hj
  obtain rfl | rfl | rfl : k = 0 ∨ k = 1 ∨ k = 2 := by omega
  all_goals (obtain rfl | rfl | rfl : j = 0 ∨ j = 1 ∨ j = 2 := by omega)
  all_goals rfl
def ruleR (F : Work) (l : List T3) (men : Int) (h i : Nat) : Int :=
  if (l.getD h default).at i < 0 then 0 else if ¬ Ordered (l.getD h default) i then 1 else if ¬ okStep F worstTo h (upToP (l.getD h default) i) i then 2
  else if men ≤ befH l ((l.getD h default).at i) h then 3 else 0
section
variable {F : Work} {l : List T3} {men : Int} {h i : Nat} {p : T3}
end
def BrokeR (F : Work) (l : List T3) (x : Int × Int × Int × Int) : Prop := if chk F (decide (ListOk F l)) = 0 then First (ruleR F l F.men) l.length x else x = (0, 0, 0, chk F (decide (ListOk F l)))
theorem BrokeR_ok {F : Work} {l : List T3} {x : Int × Int × Int × Int} (hg : GoodF F) (hv : ListOk F l) (h : First (ruleR F l F.men) l.length x) : BrokeR F l x := by unfold BrokeR; rw [if_pos (by simp [chk, hg, hv])]; exact h
theorem BrokeR_at {F : Work} {l : List T3} (hg : GoodF F) (hv : ListOk F l) {h i : Nat} (h0 : ruleR F l F.men h i ≠ 0) (h1 : h < l.length) (h2 : i < 3) (h3 : ∀ h', h' < h → ∀ i', i' < 3 → ruleR F l F.men h' i' = 0) (h4 : ∀ i', i' < i → ruleR F l F.men h i' = 0) : BrokeR F l ((h : Int), (i : Int), ruleR F l F.men h i, 0) :=
  BrokeR_ok hg hv (.inl ⟨h, i, h1, h2, h0, h3, h4, rfl⟩)
theorem ListOk_of {F : Work} {l : List T3} (h : ¬ chk F (decide (ListOk F l)) ≠ 0) : ListOk F l := by
  by_cases hl : ListOk F l
  · exact hl
  · have := chk_false F
    simp only [hl, decide_false] at h
    exact absurd this h
/-! ### which heaps can be clamped -/
def sumP (q : Nat → Bool) : Nat → Int
  | 0 => 0
  | k + 1 => sumP q k + (if q k then pw k else 0)
def sureRQ (F : Work) (h : Nat) : Bool := decide (0 < ((sureR F h).length : Int))
def canRQ (F : Work) (h : Nat) : Bool := decide (∃ j, j < (whole F.rain.length).length ∧ ¬ keptR F h ((whole F.rain.length).getD j default) = 0)
def clampR (F : Work) : Int × Int × Int := if chk F true = 0 then (sumP (sureRQ F) F.heaps.length, sumP (canRQ F) F.heaps.length, 0) else (0, 0, chk F true)
/-! ### how many sods plans clamp -/
def Whole (p : T3) : Prop := 0 ≤ p.at 0 ∧ 0 ≤ p.at 1 ∧ 0 ≤ p.at 2
instance (p : T3) : Decidable (Whole p) := by unfold Whole; infer_instance
def sodsTo (F : Work) (l : List T3) : Nat → Int
  | 0 => 0
  | k + 1 => sodsTo F l k + (if Whole (l.getD k default) then (F.heaps.getD k default).sods else 0)
def sodsR (F : Work) (l : List T3) : Int := sodsTo F l l.length
theorem list_eq {xs ys : List T3} (hl : xs.length = ys.length) (h : ∀ k, k < xs.length → xs.getD k default = ys.getD k default) : xs = ys := by
  apply List.ext_getElem hl
  intro i h1 h2
  have := h i h1
  simpa [List.getD_eq_getElem?_getD, h1, h2] using this
end Foot4


namespace Go.Proofs.Ytienjlmnakbfmaa
open Go.G Foot4
set_option maxRecDepth 1000000
attribute [local irreducible] G.ParO G.Fin
set_option maxHeartbeats 4000000 in
theorem Plans_v (xs ys : List T3) (oa ob : Option Addr) (ca cb : Nat) (hx : xs.length ≤ 1000) (hy : ys.length ≤ 1000) : FnV Try.prog 30 [.slice oa xs.length ca, .slice ob ys.length cb] [rowD oa 3 encT xs, rowD ob 3 encT ys] (.bool (decide (xs = ys))) := by
  refine FnV.intro Try.call30 Try.func30 rfl Try.ntmps30 rfl ?_
  intro W M Rf
  refine r_seq ?_
  refine r_region ?_
  refine o_q _ rfl rfl rfl (v_assign rfl rfl) ?_
  refine o_nil ?_
  with_reducible refine r_then ?_
  refine r_seq ?_
  refine r_seq ?_
  refine r_region ?_
  refine o_q _ rfl rfl rfl (v_move rfl rfl) ?_
  refine o_q _ rfl rfl rfl (v_len rfl rfl Try.underlying40 rfl) ?_
  refine o_q _ rfl rfl rfl (v_move rfl rfl) ?_
  refine o_q _ rfl rfl rfl (v_len rfl rfl Try.underlying40 rfl) ?_
  refine o_q _ rfl rfl rfl (v_neq rfl rfl rfl) ?_
  refine o_nil ?_
  with_reducible refine r_then ?_
  refine r_condd rfl (fun hc10 => ?_) (fun hc10 => ?_)
  ·
    refine r_seq ?_
    refine r_region ?_
    refine o_q _ rfl rfl rfl (v_assign rfl rfl) ?_
    refine o_nil ?_
    with_reducible refine r_then ?_
    refine r_ret ?_
    with_reducible refine r_then_ret ?_
    exact r_retv2 (Rd.tmp rfl rfl) (congrArg Value.bool (decide_eq_false (fun h => by subst h; contradiction)).symm) SelMC.sel SubRC.sub
  ·
    refine r_skip ?_
    with_reducible refine r_then ?_
    refine r_seq ?_
    refine r_seq ?_
    refine r_region ?_
    refine o_q _ rfl rfl rfl (v_assign rfl rfl) ?_
    refine o_nil ?_
    with_reducible refine r_then ?_
    refine r_block ?_
    refine r_loop (ι := Nat) (fun k => k ≤ xs.length ∧ ∀ j, j < k → xs.getD j default = ys.getD j default) (fun k => [(0, .slice oa xs.length ca), (1, .slice ob ys.length cb), (5, i64 k)]) (fun k => M) (fun k => [rowD oa 3 encT xs, rowD ob 3 encT ys] ++ Rf) (fun k => xs.length - k) 0 ?_ ?_ ?_
    ·
      exact r_here (by repeat (first | exact FSub.nil | refine FSub.cons rfl ?_)) SelMC.sel SubRC.sub
    ·
      exact ⟨Nat.zero_le _, fun h hh => absurd hh (by omega)⟩
    ·
      rintro k hI0
      refine r_seq ?_
      refine r_seq ?_
      refine r_region ?_
      refine o_q _ rfl rfl rfl (v_move rfl rfl) ?_
      refine o_q _ rfl rfl rfl (v_move rfl rfl) ?_
      refine o_q _ rfl rfl rfl (v_len rfl rfl Try.underlying40 rfl) ?_
      refine o_q _ rfl rfl rfl (v_lss rfl rfl rfl) ?_
      refine o_nil ?_
      with_reducible refine r_then ?_
      refine r_condd rfl (fun hc14 => ?_) (fun hc14 => ?_)
      ·
        refine r_skip ?_
        with_reducible refine r_then ?_
        refine r_seq ?_
        refine r_block ?_
        refine r_seq ?_
        refine r_region_q mixed (by kernel_rfl) ?_
        refine q_q _ rfl rfl rfl (v_move rfl rfl) ?_
        refine q_q _ rfl rfl rfl (v_move rfl rfl) ?_
        refine q_q _ rfl rfl rfl (v_indexAddrSn rfl Try.underlying40 inf27 rfl rfl rfl (by omega) rfl) ?_
        refine q_q _ rfl rfl rfl (v_loadEN rfl Try.underlying27 rfl inf27 rfl (by omega) rfl rfl rfl) ?_
        refine q_q _ rfl rfl rfl (v_move rfl rfl) ?_
        refine q_q _ rfl rfl rfl (v_move rfl rfl) ?_
        refine q_q _ rfl rfl rfl (v_indexAddrSn rfl Try.underlying40 inf27 rfl rfl rfl (by omega) rfl) ?_
        refine q_q _ rfl rfl rfl (v_loadEN rfl Try.underlying27 rfl inf27 rfl (by omega) rfl rfl rfl) ?_
        refine q_q _ rfl rfl rfl (v_neP rfl rfl rfl guard27 (eq27 _ _ _ _ _ _)) ?_
        refine q_nil ?_
        with_reducible refine r_then ?_
        refine r_condd rfl (fun hc25 => ?_) (fun hc25 => ?_)
        ·
          refine r_seq ?_
          refine r_region ?_
          refine o_q _ rfl rfl rfl (v_assign rfl rfl) ?_
          refine o_nil ?_
          with_reducible refine r_then ?_
          refine r_ret ?_
          with_reducible refine r_in_ret ?_; refine r_then_ret ?_; refine r_then_ret ?_; refine r_in_ret ?_; refine r_then_ret ?_
          exact r_retv2 (Rd.tmp rfl rfl) (congrArg Value.bool (decide_eq_false (fun h => by subst h; contradiction)).symm) SelMC.sel SubRC.sub
        ·
          refine r_skip ?_
          with_reducible refine r_in_normal ?_; refine r_then ?_
          refine r_region ?_
          refine o_q _ rfl rfl rfl (v_move rfl rfl) ?_
          refine o_q _ rfl rfl rfl (v_add rfl rfl rfl (by omega)) ?_
          refine o_q _ rfl rfl rfl (v_assign rfl rfl) ?_
          refine o_nil ?_
          with_reducible refine r_then ?_
          refine r_next (k + 1) ?_ ?_ ?_
          ·
            exact r_here (by repeat (first | exact FSub.nil | refine FSub.cons rfl ?_)) SelMC.sel SubRC.sub
          ·
            exact ⟨by omega, all_step hI0.2 (Classical.not_not.1 (by assumption))⟩
          ·
            omega
      ·
        refine r_exit ?_
        with_reducible refine r_then_exit ?_; refine r_then_exit ?_; refine r_in_here ?_; refine r_then ?_
        refine r_seq ?_
        refine r_region ?_
        refine o_q _ rfl rfl rfl (v_assign rfl rfl) ?_
        refine o_nil ?_
        with_reducible refine r_then ?_
        refine r_ret ?_
        exact r_retv2 (Rd.tmp rfl rfl) (congrArg Value.bool (decide_eq_true (list_eq (by omega) (fun j hj => hI0.2 j (by omega)))).symm) SelMC.sel SubRC.sub
end Go.Proofs.Ytienjlmnakbfmaa


namespace Go.G
variable {P : Program} {W : World} {n : Nat} {D : List Deferred} {L : Tm} {M : List Res} {R : List Fact} {Q : Exit → Act → World → Prop} {o : Oper}
theorem v_max3 {x y z : Operand} {k : IntKind} {a b c : Int} {ts : Array TypeId} (ho : o.op = .call { callee := .builtin .max, args := #[x, y, z], argTypes := ts }) (hx : ev L x = some (.int k a)) (hy : ev L y = some (.int k b)) (hz : ev L z = some (.int k c)) : OpQ P W n L M R o (.int k (max (max a b) c)) :=
  OpQ.of_value fun g w h1 _ => by
    have e1 : max a b = if b > a then b else a := by split <;> omega
    have e2 : max (max a b) c = if c > (if b > a then b else a) then c else (if b > a then b else a) := by rw [← e1]; split <;> omega
    simp [execOp, ho, resolve, invoke, builtin, h1.ev hx, h1.ev hy, h1.ev hz, Builtin.max_, Builtin.max2, e2]
/-- A block is a row of its elements. -/
theorem Imp.rowN {α : Type} {enc : α → List Value} {sz : Nat} {b : Nat} {T : TypeId} {vs : List Value} {X : Act → World → Prop} (xs : List α) (henc : ∀ x, (enc x).length = sz) [hb : HasBoxF b R T vs] (e : vs = xs.flatMap enc) (h : Imp W n D L M (rowD (some ⟨b, 0, none⟩) sz enc xs :: R) X) : Imp W n D L M R X := by
  intro a w h1 h2 h3
  refine h a w h1 h2 (h3.derive fun V hV => .inr ⟨b, 0, vs.toArray, T, (0, 0), rfl, hV _ hb.mem, fun i j hi hj => ?_⟩)
  subst e
  rw [Nat.zero_add, ← flat_at henc xs i j hi hj]
  simp
theorem o_litG {ops : Array Oper} {rest : List Oper} {t e : TypeId} {ps : List (Nat × Operand)} {vs : List Value} {len : Nat} {i : TypeInfo} {z : Value} {cs : List Value} {d j : Nat} {b : Bool} (ho : o.op = .buildSlice t len ps.toArray) (ht : P.underlying t = some (.slice e)) (hi : P.info? e = some i) (hz : i.zero = some z)
    (hbig : Nat.ble (len * i.size) 16777216 = true) (hpos : Nat.beq (len * i.size) 0 = false) (hg : o.guard = some (j, b)) (hsd : said ops L j = some b) (hdst : o.dst = some d) (hd : Nat.blt d n = true)
    (hx : evs L (ps.map (·.2)) = some vs) (hk : ps.map (·.1) = List.range ps.length) (hp : PlaceOK (fun k => some (k * i.size, i.size)) 0 0 vs) [hc : CatC vs cs] (hl : cs.length = len * i.size)
    (h : ∀ b, Imp W n D ((d, .slice (some ⟨b, 0, none⟩) len len) :: L) (bx b e cs :: M) R (wpList P ops Q rest)) : Imp W n D L M R (wpList P ops Q (o :: rest)) := by
  intro a w g1 g2 g3
  refine wpList_step fun K hK => ?_
  rw [if_pos (by simp [Region.wanted, hg, said_sound g1 hsd])]
  unfold Oper.wp
  have hu := parts_eq g1 hx hk
  have hb1 : ¬ (2 ^ 24 < len * i.size) := by
    have : len * i.size ≤ 16777216 := by simpa using hbig
    omega
  have hb2 : ¬ (len * i.size = 0) := fun e => by rw [e] at hpos; cases hpos
  have hf := fill_all (cells := (Array.range (len * i.size)).map (fun k => z.cells[k % z.cells.size]!)) hp hc.cat (by simpa using hl)
  have hrun : (execOp a.eval o).run P w = .ok (.value (.slice (some ⟨w.heap.size, 0, none⟩) len len)) (w.alloc (.cells cs.toArray e)) := by
    simp only [execOp, ho, Instr.buildSlice, Sem.run_bind, run_underlying ht, run_sizeOf' hi, Result.andThen_ok, gt_iff_lt, hb1, hb2, if_false, run_zeroValue' hi hz, Sem.run_pure, List.map_toArray, hu, hf]
    simp [newRow, newObj, Sem.run]
  rw [hrun, Oper.upon_value, hdst]
  exact hK _ _ (h w.heap.size _ _ (g1.put (by simpa using hd) _) (by rw [put_defers]; exact g2) (g3.push _))
theorem o_fnown {α : Type} {ops : Array Oper} {rest : List Oper} {k : FuncId} {args : List Value} {R0 : List Fact} {xs : List Operand} {ts : Array TypeId} {d : Nat} {g : Value → Value} {T : TypeId} {sz : Nat} {enc : α → List Value} {ys : List α}
    (h : FnS P k args [] R0 (fun e M' R' => ∃ v, e = .returned (g v) ∧ M' = [ownL v T sz enc ys] ∧ R' = [])) (ho : o.op = .call { callee := .value (.func k), args := xs.toArray, argTypes := ts })
    (hx : evs L xs = some args) (hg : o.guard = none) (hdst : o.dst = some d) (hd : Nat.blt d n = true) (hs : SubR R R0)
    (hret : ∀ v, Imp W n D ((d, g v) :: L) (ownL v T sz enc ys :: M) R (wpList P ops Q rest)) : Imp W n D L M R (wpList P ops Q (o :: rest)) := by
  refine o_call h ho [] [] rfl hx (by simp) hg (by simp [okD, hdst, hd]) SelM.refl hs ?_ ?_ ?_
  · rintro v M' R' ⟨u, he, rfl, rfl⟩
    cases he
    rw [hdst]
    exact hret u
  · rintro c M' R' ⟨u, he, _⟩; cases he
  · rintro M' R' ⟨u, he, _⟩; cases he
/-- The addresses in a struct's slices. -/
def adrAt : Value → Nat → Option Addr
  | .agg cs, i => adr (cs.getD i undef)
  | _, _ => none
end Go.G


namespace Foot4
open Go Go.G
/-- As many steps are done, day by day. -/
theorem wet_same {F : Work} {heap n : Nat} {p q : T3} (hadv : ∀ d k : Nat, d < n → k ≤ 3 → (∀ j, j < k → 0 ≤ p.at j ∧ p.at j ≤ d) → ((adv p d k : Nat) : Int) = Done q d) :
    wetF selW F heap p n = worstTo F heap q n ∧ wetF selD F heap p n = bestTo F heap q n := by
  have key : ∀ (sel : Int → Int → Int) (x : Nat → Int) , (x 0 = sel (F.heaps.getD heap default).lo (F.heaps.getD heap default).hi) →
      (∀ d, x (d + 1) = if Done q d < 3 then step (x d) (sel (F.rain.getD d default).lo (F.rain.getD d default).hi) (F.dr.at (Done q d).toNat) else x d) →
      ∀ m, m ≤ n → (wetS sel F heap p m).1 = x m ∧ (wetS sel F heap p m).2 ≤ 3 ∧ (∀ j, j < (wetS sel F heap p m).2 → 0 ≤ p.at j ∧ p.at j ≤ (m : Int) - 1) := by
    intro sel x h0 hs m
    induction m with
    | zero =>
      intro _
      exact ⟨h0.symm, Nat.zero_le _, fun j hj => absurd hj (Nat.not_lt_zero _)⟩
    | succ m ih =>
      intro hm
      obtain ⟨i1, i2, i3⟩ := ih (by omega)
      have ha := hadv m (wetS sel F heap p m).2 (by omega) i2 (fun j hj => by have := i3 j hj; omega)
      have hd : ∀ f k, (∀ j, j < k → 0 ≤ p.at j ∧ p.at j ≤ (m : Int)) → ∀ j, j < advF p m f k → 0 ≤ p.at j ∧ p.at j ≤ (m : Int) := by
        intro f
        induction f with
        | zero => intro k h j hj; exact h j hj
        | succ f ihf =>
          intro k h j hj
          simp only [advF] at hj
          split at hj
          · rename_i hc
            exact ihf (k + 1) (fun j hj => by
              by_cases e : j = k
              · subst e; exact hc
              · exact h j (by omega)) j hj
          · exact h j hj
      have hdone : ∀ j, j < adv p m (wetS sel F heap p m).2 → 0 ≤ p.at j ∧ p.at j ≤ (m : Int) := hd _ _ (fun j hj => by have := i3 j hj; omega)
      have hle := adv_le (p := p) (d := (m : Int)) i2
      simp only [wetS, hs, ← ha]
      by_cases h3 : adv p m (wetS sel F heap p m).2 = 3
      · rw [if_pos h3, if_neg (by omega)]
        refine ⟨i1, Nat.le_refl 3, fun j hj => ?_⟩
        have := hdone j (by rw [h3]; exact hj)
        omega
      · rw [if_neg h3, if_pos (by omega), i1]
        refine ⟨by simp, hle, fun j hj => ?_⟩
        have := hdone j hj
        omega
  exact ⟨(key selW (worstTo F heap q) rfl (fun d => rfl) n (Nat.le_refl n)).1, (key selD (bestTo F heap q) rfl (fun d => rfl) n (Nat.le_refl n)).1⟩
theorem Done_eq {q : T3} {d : Int} : Done q d = (if 0 ≤ q.a ∧ q.a ≤ d then 1 else 0) + (if 0 ≤ q.b ∧ q.b ≤ d then 1 else 0) + (if 0 ≤ q.c ∧ q.c ≤ d then 1 else 0) := by
  simp [Done, doneTo, T3.at]
theorem adv_eq {p : T3} {d : Int} {k : Nat} (hk : k ≤ 3) (h : ∀ j, j < k → 0 ≤ p.at j ∧ p.at j ≤ d) : adv p d k = adv p d 0 := by
  induction k with
  | zero => rfl
  | succ k ih =>
    rw [← ih (by omega) (fun j hj => h j (by omega))]
    exact (adv_go ⟨by omega, h k (by omega)⟩).symm
theorem adv_0 {p : T3} {d : Int} : adv p d 0 = if 0 ≤ p.a ∧ p.a ≤ d then (if 0 ≤ p.b ∧ p.b ≤ d then (if 0 ≤ p.c ∧ p.c ≤ d then 3 else 2) else 1) else 0 := by
  simp [adv, advF, T3.at]
theorem adv_done {A B C : Prop} [Decidable A] [Decidable B] [Decidable C] (h1 : B → A) (h2 : C → B) : ((if A then if B then if C then 3 else 2 else 1 else 0 : Nat) : Int) = (if A then 1 else 0) + (if B then 1 else 0) + (if C then 1 else 0) := by
  by_cases a : A <;> by_cases b : B <;> by_cases c : C <;> simp_all
theorem ord1 {p : T3} : Ordered p 1 ↔ p.b < 0 ∨ (0 ≤ p.a ∧ p.a < p.b) := by simp [Ordered, T3.at]
theorem ord2 {p : T3} : Ordered p 2 ↔ p.c < 0 ∨ (0 ≤ p.b ∧ p.b < p.c) := by simp [Ordered, T3.at]
theorem plan_wet {F : Work} {heap n m : Nat} {p : T3} (h : IsPlan m p) : wetF selW F heap p n = worstTo F heap p n ∧ wetF selD F heap p n = bestTo F heap p n := by
  refine wet_same fun d k _ hk hj => ?_
  rw [adv_eq hk hj, adv_0, Done_eq]
  have h1 := ord1.1 h.2.2.1
  have h2 := ord2.1 h.2.2.2
  exact adv_done (by omega) (by omega)
theorem can_ok {F : Work} {heap m : Nat} {p : T3} (h : IsPlan m p) (k : Nat) : (canF selW F heap p k ↔ okStep F worstTo heap p k) ∧ (canF selD F heap p k ↔ okStep F bestTo heap p k) := by
  obtain ⟨h1, h2⟩ := plan_wet (F := F) (heap := heap) (n := (p.at k).toNat) h
  unfold canF okStep
  rw [h1, h2]
  exact ⟨Iff.rfl, Iff.rfl⟩
/-! ### the driest truth is no wetter -/
/-! ### what is wrong with plans -/
theorem withTo_at {B : List Int} {p : T3} {d : Int} (hB : B.length = 8) (hd : 0 ≤ d ∧ d ≤ 7) (hp : ∀ k, k < 3 → p.at k ≤ 7) : ∀ k, k ≤ 3 → (withTo B p k).getD d.toNat 0 = B.getD d.toNat 0 + cnt p d k
  | 0, _ => by simp [withTo, cnt]
  | k + 1, hk => by
    have ih := withTo_at hB hd hp k (by omega)
    have hl := withTo_len B p k
    have h7 := hp k (by omega)
    simp only [withTo, cnt]
    by_cases h0 : 0 ≤ p.at k
    · rw [if_pos h0]
      by_cases e : p.at k = d
      · rw [if_pos e, e]
        simp only [List.getD_eq_getElem?_getD]
        rw [List.getElem?_set_self (by omega)]
        simp only [List.getD_eq_getElem?_getD] at ih
        simp only [Option.getD_some]
        rw [ih]; omega
      · rw [if_neg e]
        simp only [List.getD_eq_getElem?_getD]
        rw [List.getElem?_set_ne (by omega)]
        simp only [List.getD_eq_getElem?_getD] at ih
        rw [ih]; omega
    · rw [if_neg h0, if_neg (by omega), ih]; omega
theorem busy_at {l : List T3} {d : Int} (hd : 0 ≤ d ∧ d ≤ 7) : ∀ h, (∀ j, j < h → ∀ k, k < 3 → (l.getD j default).at k ≤ 7) → (busyTo l h).getD d.toNat 0 = befH l d h
  | 0, _ => by
    simp only [busyTo, befH]
    have : d.toNat = 0 ∨ d.toNat = 1 ∨ d.toNat = 2 ∨ d.toNat = 3 ∨ d.toNat = 4 ∨ d.toNat = 5 ∨ d.toNat = 6 ∨ d.toNat = 7 := by omega
    rcases this with e | e | e | e | e | e | e | e <;> rw [e] <;> rfl
  | h + 1, hl => by
    simp only [busyTo, befH, with_]
    rw [withTo_at (busyTo_len l h) hd (hl h (by omega)) 3 (by omega), busy_at hd h (fun j hj => hl j (by omega))]
theorem pre_wet {F : Work} {heap : Nat} {p : T3} {i : Nat} (hi : i < 3) (h0 : 0 ≤ p.at i) (ho : ∀ j, j ≤ i → Ordered p j) : wetF selW F heap p (p.at i).toNat = worstTo F heap (upToP p i) (p.at i).toNat := by
  refine (wet_same fun d k hd hk hj => ?_).1
  rw [adv_eq hk hj, adv_0, Done_eq]
  obtain rfl | rfl | rfl : i = 0 ∨ i = 1 ∨ i = 2 := by omega
  · have e : p.at 0 = p.a := rfl
    rw [e] at hd h0
    have hA : ¬ (0 ≤ p.a ∧ p.a ≤ (d : Int)) := by omega
    show _ = (if 0 ≤ p.a ∧ p.a ≤ (d : Int) then (1 : Int) else 0) + (if (0 : Int) ≤ -1 ∧ (-1 : Int) ≤ d then 1 else 0) + (if (0 : Int) ≤ -1 ∧ (-1 : Int) ≤ d then 1 else 0)
    rw [if_neg hA, if_neg hA, if_neg (by omega)]
    rfl
  · have e : p.at 1 = p.b := rfl
    rw [e] at hd h0
    have h1 := ord1.1 (ho 1 (by omega))
    have hB : ¬ (0 ≤ p.b ∧ p.b ≤ (d : Int)) := by omega
    show _ = (if 0 ≤ p.a ∧ p.a ≤ (d : Int) then (1 : Int) else 0) + (if 0 ≤ p.b ∧ p.b ≤ (d : Int) then 1 else 0) + (if (0 : Int) ≤ -1 ∧ (-1 : Int) ≤ d then 1 else 0)
    rw [if_neg hB, if_neg hB, if_neg (show ¬ ((0 : Int) ≤ -1 ∧ (-1 : Int) ≤ d) by omega)]
    split <;> rfl
  · have e : p.at 2 = p.c := rfl
    rw [e] at hd h0
    have h1 := ord1.1 (ho 1 (by omega))
    have h2 := ord2.1 (ho 2 (by omega))
    show _ = (if 0 ≤ p.a ∧ p.a ≤ (d : Int) then (1 : Int) else 0) + (if 0 ≤ p.b ∧ p.b ≤ (d : Int) then 1 else 0) + (if 0 ≤ p.c ∧ p.c ≤ (d : Int) then 1 else 0)
    exact adv_done (by omega) (by omega)
theorem rule_eq {F : Work} {l : List T3} (hg : GoodF F) (hl : ListOk F l) {h i : Nat} (hh : h < l.length) (hi : i < 3) (hz : ∀ j, j < i → ruleP F l h j = 0) : ruleP F l h i = ruleR F l F.men h i := by
  have hd := hl.2 h hh
  have hn := hg.bnd.len
  unfold ruleP ruleR
  by_cases h0 : (l.getD h default).at i < 0
  · rw [if_pos h0, if_pos h0]
  rw [if_neg h0, if_neg h0]
  by_cases h1' : ¬ Ordered (l.getD h default) i
  · rw [if_pos h1', if_pos h1']
  have h1 := Classical.not_not.1 h1'
  rw [if_neg h1', if_neg h1']
  have hord : ∀ m, m ≤ i → ∀ j, i - m ≤ j → j ≤ i → Ordered (l.getD h default) j ∧ 0 ≤ (l.getD h default).at j := by
    intro m
    induction m with
    | zero => intro _ j hj hji; obtain rfl : j = i := by omega
              exact ⟨h1, by omega⟩
    | succ m ih =>
      intro hm j hj hji
      by_cases e : i - m ≤ j
      · exact ih (by omega) j e hji
      · obtain ⟨o1, o2⟩ := ih (by omega) (j + 1) (by omega) (by omega)
        have hjp : 0 ≤ (l.getD h default).at j := by
          rcases o1 with x | x | x
          · omega
          · omega
          · exact x.1
        refine ⟨?_, hjp⟩
        have hr := hz j (by omega)
        unfold ruleP at hr
        rw [if_neg (by omega)] at hr
        by_cases ho : Ordered (l.getD h default) j
        · exact ho
        · rw [if_pos ho] at hr; exact absurd hr (by decide)
  have hcan : canF selW F h (l.getD h default) i ↔ okStep F worstTo h (upToP (l.getD h default) i) i := by
    unfold canF okStep
    rw [upTo_at hi i hi, if_pos (Nat.le_refl i), pre_wet hi (by omega) (fun j hj => (hord i (Nat.le_refl i) j (by omega) hj).1)]
  have hb := busy_at (l := l) (d := (l.getD h default).at i) ⟨by omega, by have := hd i hi; omega⟩ h (fun j hj k hk => by have := hl.2 j (by omega) k hk; omega)
  simp only [hcan, hb]
theorem First_congr {r s : Nat → Nat → Int} {n : Nat} (h : ∀ h i, h < n → i < 3 → (∀ j, j < i → r h j = 0) → r h i = s h i) {x : Int × Int × Int × Int} (hf : First r n x) : First s n x := by
  have key : ∀ h, h < n → ∀ i, i ≤ 3 → (∀ j, j < i → r h j = 0) → ∀ j, j < i → s h j = 0 := by
    intro hp hh i hi hz j hj
    rw [← h hp j hh (by omega) (fun k hk => hz k (by omega))]
    exact hz j hj
  rcases hf with ⟨hp, i, h1, h2, h3, h4, h5, h6⟩ | ⟨h1, h2⟩
  · have e := h hp i h1 h2 h5
    exact .inl ⟨hp, i, h1, h2, e ▸ h3, fun h' hh' i' hi' => key h' (by omega) 3 (by omega) (h4 h' hh') i' hi', fun i' hi' => key hp h1 i (by omega) h5 i' hi', by rw [← e]; exact h6⟩
  · exact .inr ⟨fun hp hh i hi => key hp hh 3 (by omega) (h1 hp hh) i hi, h2⟩
theorem BrokeP_R {F : Work} {l : List T3} {x : Int × Int × Int × Int} (h : BrokeP F l x) : BrokeR F l x := by
  unfold BrokeP at h
  unfold BrokeR
  split
  · rename_i hc
    rw [if_pos hc] at h
    have hc' : ¬ chk F (decide (ListOk F l)) ≠ 0 := fun x => x hc
    exact First_congr (fun hp i hh hi hz => rule_eq (chk_zero hc').1 (ListOk_of hc') hh hi hz) h
  · rename_i hc
    rw [if_neg hc] at h
    exact h
theorem First_uniq {r : Nat → Nat → Int} {n : Nat} {x y : Int × Int × Int × Int} (hx : First r n x) (hy : First r n y) : x = y := by
  rcases hx with ⟨h, i, h1, h2, h3, h4, h5, h6⟩ | ⟨h1, h2⟩
  · rcases hy with ⟨g, j, g1, g2, g3, g4, g5, g6⟩ | ⟨g1, g2⟩
    · have eh : h = g := by
        rcases Nat.lt_trichotomy h g with e | e | e
        · exact absurd (g4 h e i h2) h3
        · exact e
        · exact absurd (h4 g e j g2) g3
      subst eh
      have ei : i = j := by
        rcases Nat.lt_trichotomy i j with e | e | e
        · exact absurd (g5 i e) h3
        · exact e
        · exact absurd (h5 j e) g3
      subst ei
      rw [h6, g6]
    · exact absurd (g1 h h1 i h2) h3
  · rcases hy with ⟨g, j, g1, g2, g3, g4, g5, g6⟩ | ⟨g1, g2⟩
    · exact absurd (h1 g g1 j g2) g3
    · rw [h2, g2]
theorem BrokeR_uniq {F : Work} {l : List T3} {x y : Int × Int × Int × Int} (hx : BrokeR F l x) (hy : BrokeR F l y) : x = y := by
  unfold BrokeR at hx hy
  split at hx
  · rename_i hc
    rw [if_pos hc] at hy
    exact First_uniq hx hy
  · rename_i hc
    rw [if_neg hc] at hy
    rw [hx, hy]
end Foot4


namespace Foot4
open Go Go.G
@[reducible] def sampleF (men : Int) : Work := ⟨[⟨0, 2⟩, ⟨1, 3⟩, ⟨0, 0⟩, ⟨0, 4⟩, ⟨0, 1⟩, ⟨0, 2⟩], men, ⟨12, 8, 4⟩, ⟨2, 3, 4⟩, [⟨8, 11, 100⟩, ⟨10, 10, 60⟩, ⟨30, 31, 40⟩]⟩
theorem good1 : GoodF (sampleF 1) := by decide +kernel
theorem smp_wet : wetP (sampleF 1) 0 ⟨0, 3, 5⟩ 3 = (⟨0, 7⟩, 0) := by decide +kernel
theorem smp_can : canP (sampleF 1) 0 ⟨0, 2, 4⟩ = (1, 0) := by decide +kernel
theorem smp_soon : soonP (sampleF 1) 1 = (⟨0, 3, 5⟩, 0) := by decide +kernel
theorem smp_soon2 : soonP (sampleF 1) 2 = (default, 4) := by decide +kernel
theorem smp_clamp : clampP (sampleF 1) = (3, 3, 0) := by decide +kernel
theorem smp_broke {x : Int × Int × Int × Int} (h : BrokeP (sampleF 1) [⟨0, 3, 5⟩, ⟨0, 3, 5⟩, ⟨-1, -1, -1⟩] x) : x = (1, 0, 3, 0) := by
  refine BrokeR_uniq (BrokeP_R h) ?_
  have hl : ListOk (sampleF 1) [⟨0, 3, 5⟩, ⟨0, 3, 5⟩, ⟨-1, -1, -1⟩] := by decide +kernel
  have hr : ruleR (sampleF 1) [⟨0, 3, 5⟩, ⟨0, 3, 5⟩, ⟨-1, -1, -1⟩] 1 1 0 = 3 := by decide +kernel
  have h0 : ∀ h', h' < 1 → ∀ i', i' < 3 → ruleR (sampleF 1) [⟨0, 3, 5⟩, ⟨0, 3, 5⟩, ⟨-1, -1, -1⟩] 1 h' i' = 0 := by decide +kernel
  have := BrokeR_at (h := 1) (i := 0) good1 hl (by show ruleR _ _ 1 1 0 ≠ 0; rw [hr]; decide) (by simp) (by omega) h0 (fun i hi => absurd hi (by omega))
  have e : ruleR (sampleF 1) [⟨0, 3, 5⟩, ⟨0, 3, 5⟩, ⟨-1, -1, -1⟩] (sampleF 1).men 1 0 = 3 := hr
  rw [e] at this
  exact this
theorem smp_best : bestP (sampleF 2) = (160, [⟨0, 3, 5⟩, ⟨0, 3, 5⟩, ⟨-1, -1, -1⟩], 0) := by decide +kernel
theorem smp_men : menP (sampleF 1) = (2, 160, 0) := by decide +kernel
end Foot4


namespace Go.Proofs.Ytienjlmnakbfmaa
open Go.G Foot4
set_option maxRecDepth 1000000
attribute [local irreducible] G.ParO G.Fin
set_option maxHeartbeats 4000000 in
theorem far_v (F : Work) (ro ho : Option Addr) (rc hc : Nat) (lo : Option Addr) (ln lc : Nat) : FnV Try.prog 13 [valF F ro rc ho hc, .slice lo ln lc] [] (.bool (decide (40 < max (max (F.rain.length : Int) F.heaps.length) ln))) := by
  refine FnV.intro Try.call13 Try.func13 rfl Try.ntmps13 rfl ?_
  intro W M Rf
  refine r_seq ?_
  refine r_region ?_
  refine o_boxA rfl rfl rfl rfl rfl (fun b2 => ?_)
  refine o_q _ rfl rfl rfl (v_assign rfl rfl) ?_
  refine o_nil ?_
  with_reducible refine r_then ?_
  refine r_seq ?_
  refine r_region ?_
  refine o_q _ rfl rfl rfl (v_fieldAddr rfl Try.underlying26 inf22 rfl rfl rfl rfl) ?_
  refine o_q _ rfl rfl rfl (v_ld1 rfl Try.underlying22 rfl rfl rfl) ?_
  refine o_q _ rfl rfl rfl (v_len rfl rfl Try.underlying22 rfl) ?_
  refine o_q _ rfl rfl rfl (v_fieldAddr rfl Try.underlying26 inf24 rfl rfl rfl rfl) ?_
  refine o_q _ rfl rfl rfl (v_ld1 rfl Try.underlying24 rfl rfl rfl) ?_
  refine o_q _ rfl rfl rfl (v_len rfl rfl Try.underlying24 rfl) ?_
  refine o_q _ rfl rfl rfl (v_move rfl rfl) ?_
  refine o_q _ rfl rfl rfl (v_len rfl rfl Try.underlying40 rfl) ?_
  refine o_q _ rfl rfl rfl (v_max3 rfl rfl rfl rfl) ?_
  refine o_q _ rfl rfl rfl (v_gtr rfl rfl rfl) ?_
  refine o_q _ rfl rfl rfl (v_assign rfl rfl) ?_
  refine o_nil ?_
  with_reducible refine r_then ?_
  refine r_ret ?_
  exact r_retv2 (Rd.tmp rfl rfl) rfl SelMC.sel SubRC.sub
set_option maxHeartbeats 4000000 in
theorem lspan_v (a b : Int) : FnV Try.prog 42 [i64 a, i64 b] [] (.agg #[i64 a, i64 b]) := by
  refine FnV.intro Try.call42 Try.func42 rfl Try.ntmps42 rfl ?_
  intro W M Rf
  refine r_seq ?_
  refine r_region ?_
  refine o_alloc rfl inf31 rfl rfl rfl rfl rfl (fun b4 => ?_)
  refine o_nil ?_
  with_reducible refine r_then ?_
  refine r_seq ?_
  refine r_region ?_
  refine o_q _ rfl rfl rfl (v_move rfl rfl) ?_
  refine o_q _ rfl rfl rfl (v_move rfl rfl) ?_
  refine o_q _ rfl rfl rfl (v_bS rfl Try.underlying31 inf31 plt31 rfl rfl rfl (by repeat (first | exact trivial | refine ⟨rfl, ?_⟩)) (by rfl)) ?_
  refine o_st rfl inf31 rfl rfl rfl rfl rfl rfl rfl rfl ?_
  refine o_nil ?_
  with_reducible refine r_then ?_
  refine r_ret ?_
  exact r_retv2 (Rd.one rfl (RdI.cellW Try.underlying31 rfl inf31 rfl rfl)) rfl SelMC.sel SubRC.sub
set_option maxHeartbeats 4000000 in
theorem sample_r (men : Int) : FnR Try.prog 45 [i64 men] [] (fun v => ∃ ro ho, v = valF (sampleF men) ro 6 ho 3) (fun v => [rowD (adrAt v 0) 2 encS (sampleF men).rain, rowD (adrAt v 8) 3 encH (sampleF men).heaps]) := by
  refine FnR.intro Try.call45 Try.func45 rfl Try.ntmps45 rfl ?_
  intro W M Rf
  refine r_seq ?_
  refine r_region ?_
  refine o_alloc rfl inf26 rfl rfl rfl rfl rfl (fun b2 => ?_)
  refine o_nil ?_
  with_reducible refine r_then ?_
  refine r_seq ?_
  refine r_region ?_
  refine o_q _ rfl rfl rfl (OpQ.fn (lspan_v _ _) rfl rfl SubRC.sub) ?_
  refine o_q _ rfl rfl rfl (OpQ.fn (lspan_v _ _) rfl rfl SubRC.sub) ?_
  refine o_q _ rfl rfl rfl (OpQ.fn (lspan_v _ _) rfl rfl SubRC.sub) ?_
  refine o_q _ rfl rfl rfl (OpQ.fn (lspan_v _ _) rfl rfl SubRC.sub) ?_
  refine o_q _ rfl rfl rfl (OpQ.fn (lspan_v _ _) rfl rfl SubRC.sub) ?_
  refine o_q _ rfl rfl rfl (OpQ.fn (lspan_v _ _) rfl rfl SubRC.sub) ?_
  refine o_lit rfl Try.underlying22 inf31 rfl rfl rfl rfl rfl rfl rfl rfl (by repeat (first | exact trivial | refine ⟨rfl, ?_⟩)) (by rfl) (fun b9 => ?_)
  refine o_q _ rfl rfl rfl (v_move rfl rfl) ?_
  refine o_q _ rfl rfl rfl (v_bA rfl Try.underlying23 inf23 inf3 rfl rfl rfl (by repeat (first | exact trivial | refine ⟨rfl, ?_⟩)) (by rfl)) ?_
  refine o_q _ rfl rfl rfl (v_bA rfl Try.underlying23 inf23 inf3 rfl rfl rfl (by repeat (first | exact trivial | refine ⟨rfl, ?_⟩)) (by rfl)) ?_
  refine o_q _ rfl rfl rfl (OpQ.fn (lspan_v _ _) rfl rfl SubRC.sub) ?_
  refine o_q _ rfl rfl rfl (v_bS rfl Try.underlying73 inf73 plt73 rfl rfl rfl (by repeat (first | exact trivial | refine ⟨rfl, ?_⟩)) (by rfl)) ?_
  refine o_q _ rfl rfl rfl (OpQ.fn (lspan_v _ _) rfl rfl SubRC.sub) ?_
  refine o_q _ rfl rfl rfl (v_bS rfl Try.underlying73 inf73 plt73 rfl rfl rfl (by repeat (first | exact trivial | refine ⟨rfl, ?_⟩)) (by rfl)) ?_
  refine o_q _ rfl rfl rfl (OpQ.fn (lspan_v _ _) rfl rfl SubRC.sub) ?_
  refine o_q _ rfl rfl rfl (v_bS rfl Try.underlying73 inf73 plt73 rfl rfl rfl (by repeat (first | exact trivial | refine ⟨rfl, ?_⟩)) (by rfl)) ?_
  refine o_lit rfl Try.underlying24 inf73 rfl rfl rfl rfl rfl rfl rfl rfl (by repeat (first | exact trivial | refine ⟨rfl, ?_⟩)) (by rfl) (fun b19 => ?_)
  refine o_q _ rfl rfl rfl (v_bS rfl Try.underlying26 inf26 plt26 rfl rfl rfl (by repeat (first | exact trivial | refine ⟨rfl, ?_⟩)) (by rfl)) ?_
  refine o_st rfl inf26 rfl rfl rfl rfl rfl rfl rfl rfl ?_
  refine o_nil ?_
  with_reducible refine r_then ?_
  refine r_ret ?_
  refine Imp.box_to b2 (cellsF (sampleF men) (some ⟨b9, 0, none⟩) 6 (some ⟨b19, 0, none⟩) 3) rfl ?_
  refine Imp.sealB b9 ?_
  refine Imp.rowN (b := b9) (sampleF men).rain encS_len rfl ?_
  refine Imp.sealB b19 ?_
  refine Imp.rowN (b := b19) (sampleF men).heaps encH_len rfl ?_
  exact r_retr (Rd.one rfl (RdI.cellW Try.underlying26 rfl inf26 rfl rfl)) ⟨some ⟨b9, 0, none⟩, some ⟨b19, 0, none⟩, rfl⟩ SelMC.sel (by show SubR _ ([rowD (some ⟨b9, 0, none⟩) 2 encS (sampleF men).rain, rowD (some ⟨b19, 0, none⟩) 3 encH (sampleF men).heaps] ++ _); exact SubRC.sub)
theorem o_sample {W : World} {n : Nat} {D : List Deferred} {L : Tm} {M : List Res} {R : List Fact} {Q : Exit → Act → World → Prop} {o : Oper} {ops : Array Oper} {rest : List Oper} {xs : List Operand} {ts : Array TypeId} {d : Nat} (men : Int)
    (ho : o.op = .call { callee := .value (.func 45), args := xs.toArray, argTypes := ts }) (hx : evs L xs = some [i64 men]) (hg : o.guard = none) (hdst : o.dst = some d) (hd : Nat.blt d n = true)
    (hret : ∀ ro ho, Imp W n D ((d, valF (sampleF men) ro 6 ho 3) :: L) M (rowD ro 2 encS (sampleF men).rain :: rowD ho 3 encH (sampleF men).heaps :: R) (wpList Try.prog ops Q rest)) : Imp W n D L M R (wpList Try.prog ops Q (o :: rest)) :=
  o_fn (sample_r men) ho hx hg hdst hd SubR.nil (fun v ⟨ro, ho, hv⟩ => by subst hv; exact hret ro ho)
theorem SmpWet_v (ro ho : Option Addr) (rc hc : Nat) : FnV Try.prog 15 [valF (sampleF 1) ro rc ho hc, i64 0, .agg #[i64 0, i64 3, i64 5], i64 3] [rowD ro 2 encS (sampleF 1).rain, rowD ho 3 encH (sampleF 1).heaps] (.tuple #[.agg #[i64 0, i64 7], i64 0]) := by
  have h := WetP_v (sampleF 1) ro ho rc hc 0 0 3 5 3 (by simp) (by simp)
  rw [smp_wet] at h; exact h
theorem SmpCan_v (ro ho : Option Addr) (rc hc : Nat) : FnV Try.prog 17 [valF (sampleF 1) ro rc ho hc, i64 0, .agg #[i64 0, i64 2, i64 4]] [rowD ro 2 encS (sampleF 1).rain, rowD ho 3 encH (sampleF 1).heaps] (.tuple #[i64 1, i64 0]) := by
  have h := CanP_v (sampleF 1) ro ho rc hc 0 0 2 4 (by simp) (by simp)
  rw [smp_can] at h; exact h
theorem SmpSoon_v (ro ho : Option Addr) (rc hc : Nat) : FnV Try.prog 19 [valF (sampleF 1) ro rc ho hc, i64 1] [rowD ro 2 encS (sampleF 1).rain, rowD ho 3 encH (sampleF 1).heaps] (.tuple #[.agg #[i64 0, i64 3, i64 5], i64 0]) := by
  have h := SoonP_v (sampleF 1) ro ho rc hc 1 (by simp) (by simp)
  rw [smp_soon] at h; exact h
theorem SmpSoon2_v (ro ho : Option Addr) (rc hc : Nat) : FnV Try.prog 19 [valF (sampleF 1) ro rc ho hc, i64 2] [rowD ro 2 encS (sampleF 1).rain, rowD ho 3 encH (sampleF 1).heaps] (.tuple #[.agg #[i64 0, i64 0, i64 0], i64 4]) := by
  have h := SoonP_v (sampleF 1) ro ho rc hc 2 (by simp) (by simp)
  rw [smp_soon2] at h; exact h
theorem SmpClamp_v (ro ho : Option Addr) (rc hc : Nat) : FnV Try.prog 21 [valF (sampleF 1) ro rc ho hc] [rowD ro 2 encS (sampleF 1).rain, rowD ho 3 encH (sampleF 1).heaps] (.tuple #[i64 3, i64 3, i64 0]) := by
  have h := ClampP_v (sampleF 1) ro ho rc hc (by simp) (by simp)
  rw [smp_clamp] at h; exact h
theorem SmpMen_v (ro ho : Option Addr) (rc hc : Nat) : FnV Try.prog 28 [valF (sampleF 1) ro rc ho hc] [rowD ro 2 encS (sampleF 1).rain, rowD ho 3 encH (sampleF 1).heaps] (.tuple #[i64 2, i64 160, i64 0]) := by
  have h := Men_v (sampleF 1) ro ho rc hc (by simp) (by simp)
  rw [smp_men] at h; exact h
theorem SmpBest_s (ro ho : Option Addr) (rc hc : Nat) : FnS Try.prog 26 [valF (sampleF 2) ro rc ho hc] [] [rowD ro 2 encS (sampleF 2).rain, rowD ho 3 encH (sampleF 2).heaps] (fun e M' R' => ∃ v, e = .returned (.tuple #[i64 160, v, i64 0]) ∧ M' = [ownL v 27 3 encT [⟨0, 3, 5⟩, ⟨0, 3, 5⟩, ⟨-1, -1, -1⟩]] ∧ R' = []) := by
  have h := Best_s (sampleF 2) ro ho rc hc (by simp) (by simp)
  rw [smp_best] at h; exact h
set_option maxHeartbeats 4000000 in
theorem awake_v  : FnV Try.prog 14 [] [] (.bool true) := by
  refine FnV.intro Try.call14 Try.func14 rfl Try.ntmps14 rfl ?_
  intro W M Rf
  refine r_seq ?_
  refine r_region ?_
  refine o_q _ rfl rfl rfl (v_assign rfl rfl) ?_
  refine o_nil ?_
  with_reducible refine r_then ?_
  refine r_seq ?_
  refine r_region ?_
  refine o_sample 1 rfl rfl rfl rfl rfl (fun ro ho => ?_)
  all_goals
    refine o_q _ rfl rfl rfl (OpQ.fn None_v rfl rfl SubRC.sub) ?_
    refine o_alloc rfl inf26 rfl rfl rfl rfl rfl (fun b1 => ?_)
    refine o_alloc rfl inf27 rfl rfl rfl rfl rfl (fun b2 => ?_)
    refine o_st rfl inf26 rfl rfl rfl rfl rfl rfl rfl rfl ?_
    refine o_st rfl inf27 rfl rfl rfl rfl rfl rfl rfl rfl ?_
    refine o_nil ?_
    with_reducible refine r_then ?_
    refine r_seq ?_
    refine r_region ?_
    refine o_q _ rfl rfl rfl (v_ldW rfl Try.underlying26 rfl inf26 rfl rfl) ?_
    refine o_q _ rfl rfl rfl (v_bA rfl Try.underlying27 inf27 inf3 rfl rfl rfl (by repeat (first | exact trivial | refine ⟨rfl, ?_⟩)) (by rfl)) ?_
    refine o_q _ rfl rfl rfl (OpQ.fn (SmpWet_v _ _ _ _) rfl rfl SubRC.sub) ?_
    refine o_q _ rfl rfl rfl (v_move rfl rfl) ?_
    refine o_q _ rfl rfl rfl (v_extract rfl rfl rfl) ?_
    refine o_q _ rfl rfl rfl (v_extract rfl rfl rfl) ?_
    refine o_alloc rfl inf31 rfl rfl rfl rfl rfl (fun b3 => ?_)
    refine o_st rfl inf31 rfl rfl rfl rfl rfl rfl rfl rfl ?_
    refine o_q _ rfl rfl rfl (v_assign rfl rfl) ?_
    refine o_nil ?_
    with_reducible refine r_then ?_
    refine r_seq ?_
    refine r_region ?_
    refine o_q _ rfl rfl rfl (v_ldW rfl Try.underlying26 rfl inf26 rfl rfl) ?_
    refine o_q _ rfl rfl rfl (v_bA rfl Try.underlying27 inf27 inf3 rfl rfl rfl (by repeat (first | exact trivial | refine ⟨rfl, ?_⟩)) (by rfl)) ?_
    refine o_q _ rfl rfl rfl (OpQ.fn (SmpCan_v _ _ _ _) rfl rfl SubRC.sub) ?_
    refine o_q _ rfl rfl rfl (v_move rfl rfl) ?_
    refine o_q _ rfl rfl rfl (v_extract rfl rfl rfl) ?_
    refine o_q _ rfl rfl rfl (v_extract rfl rfl rfl) ?_
    refine o_q _ rfl rfl rfl (v_assign rfl rfl) ?_
    refine o_q _ rfl rfl rfl (v_assign rfl rfl) ?_
    refine o_nil ?_
    with_reducible refine r_then ?_
    refine r_seq ?_
    refine r_region ?_
    refine o_q _ rfl rfl rfl (v_ldW rfl Try.underlying26 rfl inf26 rfl rfl) ?_
    refine o_q _ rfl rfl rfl (OpQ.fn (SmpSoon_v _ _ _ _) rfl rfl SubRC.sub) ?_
    refine o_q _ rfl rfl rfl (v_move rfl rfl) ?_
    refine o_q _ rfl rfl rfl (v_extract rfl rfl rfl) ?_
    refine o_q _ rfl rfl rfl (v_extract rfl rfl rfl) ?_
    refine o_alloc rfl inf27 rfl rfl rfl rfl rfl (fun b7 => ?_)
    refine o_st rfl inf27 rfl rfl rfl rfl rfl rfl rfl rfl ?_
    refine o_q _ rfl rfl rfl (v_assign rfl rfl) ?_
    refine o_nil ?_
    with_reducible refine r_then ?_
    refine r_seq ?_
    refine r_region ?_
    refine o_q _ rfl rfl rfl (v_ldW rfl Try.underlying26 rfl inf26 rfl rfl) ?_
    refine o_q _ rfl rfl rfl (OpQ.fn (SmpClamp_v _ _ _ _) rfl rfl SubRC.sub) ?_
    refine o_q _ rfl rfl rfl (v_move rfl rfl) ?_
    refine o_q _ rfl rfl rfl (v_extract rfl rfl rfl) ?_
    refine o_q _ rfl rfl rfl (v_extract rfl rfl rfl) ?_
    refine o_q _ rfl rfl rfl (v_extract rfl rfl rfl) ?_
    refine o_q _ rfl rfl rfl (v_assign rfl rfl) ?_
    refine o_q _ rfl rfl rfl (v_assign rfl rfl) ?_
    refine o_q _ rfl rfl rfl (v_assign rfl rfl) ?_
    refine o_nil ?_
    with_reducible refine r_then ?_
    refine r_seq ?_
    refine r_region ?_
    refine o_q _ rfl rfl rfl (v_ldW rfl Try.underlying26 rfl inf26 rfl rfl) ?_
    refine o_q _ rfl rfl rfl (v_bA rfl Try.underlying27 inf27 inf3 rfl rfl rfl (by repeat (first | exact trivial | refine ⟨rfl, ?_⟩)) (by rfl)) ?_
    refine o_q _ rfl rfl rfl (v_bA rfl Try.underlying27 inf27 inf3 rfl rfl rfl (by repeat (first | exact trivial | refine ⟨rfl, ?_⟩)) (by rfl)) ?_
    refine o_q _ rfl rfl rfl (v_ldW rfl Try.underlying27 rfl inf27 rfl rfl) ?_
    refine o_lit rfl Try.underlying40 inf27 rfl rfl rfl rfl rfl rfl rfl rfl (by repeat (first | exact trivial | refine ⟨rfl, ?_⟩)) (by rfl) (fun b54 => ?_)
    refine Imp.sealB b54 ?_
    refine Imp.rowN (b := b54) ([⟨0, 3, 5⟩, ⟨0, 3, 5⟩, ⟨-1, -1, -1⟩] : List T3) encT_len rfl ?_
    refine o_fn (BrokenP_r (sampleF 1) ro ho 6 3 (by simp) (by simp) [⟨0, 3, 5⟩, ⟨0, 3, 5⟩, ⟨-1, -1, -1⟩] (some ⟨b54, 0, none⟩) 3 (by simp)) rfl rfl rfl rfl rfl SubRC.sub (fun v55 hv55 => ?_)
    obtain ⟨x55, rfl, hb55⟩ := hv55; obtain rfl := smp_broke hb55; dsimp only
    all_goals
      refine o_q _ rfl rfl rfl (v_move rfl rfl) ?_
      refine o_q _ rfl rfl rfl (v_extract rfl rfl rfl) ?_
      refine o_q _ rfl rfl rfl (v_extract rfl rfl rfl) ?_
      refine o_q _ rfl rfl rfl (v_extract rfl rfl rfl) ?_
      refine o_q _ rfl rfl rfl (v_extract rfl rfl rfl) ?_
      refine o_q _ rfl rfl rfl (v_assign rfl rfl) ?_
      refine o_q _ rfl rfl rfl (v_assign rfl rfl) ?_
      refine o_q _ rfl rfl rfl (v_assign rfl rfl) ?_
      refine o_q _ rfl rfl rfl (v_assign rfl rfl) ?_
      refine o_nil ?_
      with_reducible refine r_then ?_
      refine r_seq ?_
      refine r_region ?_
      refine o_sample 2 rfl rfl rfl rfl rfl (fun ro2 ho2 => ?_)
      all_goals
        refine o_fnown (SmpBest_s ro2 ho2 6 3) rfl rfl rfl rfl rfl SubRC.sub (fun v62 => ?_)
        all_goals
          refine o_q _ rfl rfl rfl (v_move rfl rfl) ?_
          refine o_q _ rfl rfl rfl (v_extract rfl rfl rfl) ?_
          refine o_q _ rfl rfl rfl (v_extract rfl rfl rfl) ?_
          refine o_q _ rfl rfl rfl (v_extract rfl rfl rfl) ?_
          refine o_q _ rfl rfl rfl (v_assign rfl rfl) ?_
          refine o_q _ rfl rfl rfl (v_assign rfl rfl) ?_
          refine o_q _ rfl rfl rfl (v_assign rfl rfl) ?_
          refine o_nil ?_
          with_reducible refine r_then ?_
          refine r_seq ?_
          refine r_region ?_
          refine o_q _ rfl rfl rfl (v_ldW rfl Try.underlying26 rfl inf26 rfl rfl) ?_
          refine o_q _ rfl rfl rfl (OpQ.fn (SmpMen_v _ _ _ _) rfl rfl SubRC.sub) ?_
          refine o_q _ rfl rfl rfl (v_move rfl rfl) ?_
          refine o_q _ rfl rfl rfl (v_extract rfl rfl rfl) ?_
          refine o_q _ rfl rfl rfl (v_extract rfl rfl rfl) ?_
          refine o_q _ rfl rfl rfl (v_extract rfl rfl rfl) ?_
          refine o_q _ rfl rfl rfl (v_assign rfl rfl) ?_
          refine o_q _ rfl rfl rfl (v_assign rfl rfl) ?_
          refine o_q _ rfl rfl rfl (v_assign rfl rfl) ?_
          refine o_nil ?_
          with_reducible refine r_then ?_
          refine r_seq ?_
          refine r_region ?_
          refine o_q _ rfl rfl rfl (v_ldW rfl Try.underlying26 rfl inf26 rfl rfl) ?_
          refine o_q _ rfl rfl rfl (OpQ.fn (SmpSoon2_v _ _ _ _) rfl rfl SubRC.sub) ?_
          refine o_q _ rfl rfl rfl (v_move rfl rfl) ?_
          refine o_q _ rfl rfl rfl (v_extract rfl rfl rfl) ?_
          refine o_q _ rfl rfl rfl (v_extract rfl rfl rfl) ?_
          refine o_alloc rfl inf27 rfl rfl rfl rfl rfl (fun b22 => ?_)
          refine o_st rfl inf27 rfl rfl rfl rfl rfl rfl rfl rfl ?_
          refine o_q _ rfl rfl rfl (v_assign rfl rfl) ?_
          refine o_nil ?_
          with_reducible refine r_then ?_
          refine r_seq ?_
          refine r_seq ?_
          refine r_region_q mixed (by kernel_rfl) ?_
          refine q_q _ rfl rfl rfl (v_ldW rfl Try.underlying31 rfl inf31 rfl rfl) ?_
          refine q_q _ rfl rfl rfl (OpQ.fn (lspan_v _ _) rfl rfl SubRC.sub) ?_
          refine q_q _ rfl rfl rfl (v_cast (v := .bool false) (v_neP rfl rfl rfl guard31 (eq31 _ _ _ _)) rfl) ?_
          refine q_q _ rfl rfl rfl (v_move rfl rfl) ?_
          refine q_g _ rfl rfl rfl rfl (v_move rfl rfl) ?_
          refine q_g _ rfl rfl rfl rfl (v_false (v_neq rfl rfl rfl) (by omega)) ?_
          all_goals
            refine q_q _ rfl rfl rfl (v_pick_f rfl rfl rfl) ?_
            refine q_q _ rfl rfl rfl (v_move rfl rfl) ?_
            refine q_g _ rfl rfl rfl rfl (v_move rfl rfl) ?_
            refine q_g _ rfl rfl rfl rfl (v_false (v_neq rfl rfl rfl) (by omega)) ?_
            all_goals
              refine q_q _ rfl rfl rfl (v_pick_f rfl rfl rfl) ?_
              refine q_q _ rfl rfl rfl (v_move rfl rfl) ?_
              refine q_g _ rfl rfl rfl rfl (v_move rfl rfl) ?_
              refine q_g _ rfl rfl rfl rfl (v_false (v_neq rfl rfl rfl) (by omega)) ?_
              all_goals
                refine q_q _ rfl rfl rfl (v_pick_f rfl rfl rfl) ?_
                refine q_q _ rfl rfl rfl (v_move rfl rfl) ?_
                refine q_g _ rfl rfl rfl rfl (v_ldW rfl Try.underlying27 rfl inf27 rfl rfl) ?_
                refine q_g _ rfl rfl rfl rfl (v_bA rfl Try.underlying27 inf27 inf3 rfl rfl rfl (by repeat (first | exact trivial | refine ⟨rfl, ?_⟩)) (by rfl)) ?_
                refine q_g _ rfl rfl rfl rfl (v_cast (v := .bool false) (v_neP rfl rfl rfl guard27 (eq27 _ _ _ _ _ _)) rfl) ?_
                refine q_q _ rfl rfl rfl (v_pick_f rfl rfl rfl) ?_
                refine q_q _ rfl rfl rfl (v_move rfl rfl) ?_
                refine q_g _ rfl rfl rfl rfl (v_move rfl rfl) ?_
                refine q_g _ rfl rfl rfl rfl (v_false (v_neq rfl rfl rfl) (by omega)) ?_
                all_goals
                  refine q_q _ rfl rfl rfl (v_pick_f rfl rfl rfl) ?_
                  refine q_q _ rfl rfl rfl (v_move rfl rfl) ?_
                  refine q_g _ rfl rfl rfl rfl (v_move rfl rfl) ?_
                  refine q_g _ rfl rfl rfl rfl (v_false (v_neq rfl rfl rfl) (by omega)) ?_
                  all_goals
                    refine q_q _ rfl rfl rfl (v_pick_f rfl rfl rfl) ?_
                    refine q_q _ rfl rfl rfl (v_move rfl rfl) ?_
                    refine q_g _ rfl rfl rfl rfl (v_move rfl rfl) ?_
                    refine q_g _ rfl rfl rfl rfl (v_false (v_neq rfl rfl rfl) (by omega)) ?_
                    all_goals
                      refine q_q _ rfl rfl rfl (v_pick_f rfl rfl rfl) ?_
                      refine q_q _ rfl rfl rfl (v_move rfl rfl) ?_
                      refine q_g _ rfl rfl rfl rfl (v_move rfl rfl) ?_
                      refine q_g _ rfl rfl rfl rfl (v_false (v_neq rfl rfl rfl) (by omega)) ?_
                      all_goals
                        refine q_q _ rfl rfl rfl (v_pick_f rfl rfl rfl) ?_
                        refine q_q _ rfl rfl rfl (v_move rfl rfl) ?_
                        refine q_g _ rfl rfl rfl rfl (v_move rfl rfl) ?_
                        refine q_g _ rfl rfl rfl rfl (v_false (v_neq rfl rfl rfl) (by omega)) ?_
                        all_goals
                          refine q_q _ rfl rfl rfl (v_pick_f rfl rfl rfl) ?_
                          refine q_q _ rfl rfl rfl (v_move rfl rfl) ?_
                          refine q_g _ rfl rfl rfl rfl (v_move rfl rfl) ?_
                          refine q_g _ rfl rfl rfl rfl (v_false (v_neq rfl rfl rfl) (by omega)) ?_
                          all_goals
                            refine q_q _ rfl rfl rfl (v_pick_f rfl rfl rfl) ?_
                            refine q_q _ rfl rfl rfl (v_move rfl rfl) ?_
                            refine q_g _ rfl rfl rfl rfl (v_move rfl rfl) ?_
                            refine q_g _ rfl rfl rfl rfl (v_false (v_neq rfl rfl rfl) (by omega)) ?_
                            all_goals
                              refine q_q _ rfl rfl rfl (v_pick_f rfl rfl rfl) ?_
                              refine q_q _ rfl rfl rfl (v_move rfl rfl) ?_
                              refine q_g _ rfl rfl rfl rfl (v_move rfl rfl) ?_
                              refine q_g _ rfl rfl rfl rfl (v_false (v_neq rfl rfl rfl) (by omega)) ?_
                              all_goals
                                refine q_q _ rfl rfl rfl (v_pick_f rfl rfl rfl) ?_
                                refine q_nil ?_
                                with_reducible refine r_then ?_
                                refine r_cond rfl (fun hc128 => ?_) (fun hc128 => ?_)
                                ·
                                  (exfalso; revert hc128; decide)
                                ·
                                  refine r_skip ?_
                                  with_reducible refine r_then ?_
                                  refine r_seq ?_
                                  refine Imp.settleS v62 encT_len (fun oa17 cp17 hv => ?_)
                                  subst hv
                                  refine r_region ?_
                                  refine o_q _ rfl rfl rfl (v_move rfl rfl) ?_
                                  refine o_q _ rfl rfl rfl (v_true (v_eql rfl rfl rfl) (by omega)) ?_
                                  all_goals
                                    refine o_q _ rfl rfl rfl (v_move rfl rfl) ?_
                                    refine o_g _ rfl rfl rfl rfl (v_move rfl rfl) ?_
                                    refine o_g _ rfl rfl rfl rfl (v_bA rfl Try.underlying27 inf27 inf3 rfl rfl rfl (by repeat (first | exact trivial | refine ⟨rfl, ?_⟩)) (by rfl)) ?_
                                    refine o_g _ rfl rfl rfl rfl (v_bA rfl Try.underlying27 inf27 inf3 rfl rfl rfl (by repeat (first | exact trivial | refine ⟨rfl, ?_⟩)) (by rfl)) ?_
                                    refine o_g _ rfl rfl rfl rfl (v_ldW rfl Try.underlying27 rfl inf27 rfl rfl) ?_
                                    refine o_litG rfl Try.underlying40 inf27 rfl rfl rfl rfl rfl rfl rfl rfl rfl (by repeat (first | exact trivial | refine ⟨rfl, ?_⟩)) (by rfl) (fun b136 => ?_)
                                    refine Imp.sealB b136 ?_
                                    refine Imp.rowN (b := b136) ([⟨0, 3, 5⟩, ⟨0, 3, 5⟩, ⟨-1, -1, -1⟩] : List T3) encT_len rfl ?_
                                    refine o_g _ rfl rfl rfl rfl (v_cast (v := .bool true) (OpQ.fn (Plans_v [⟨0, 3, 5⟩, ⟨0, 3, 5⟩, ⟨-1, -1, -1⟩] [⟨0, 3, 5⟩, ⟨0, 3, 5⟩, ⟨-1, -1, -1⟩] oa17 (some ⟨b136, 0, none⟩) cp17 3 (by simp) (by simp)) rfl rfl SubRC.sub) (congrArg Value.bool (decide_eq_true rfl))) ?_
                                    refine o_q _ rfl rfl rfl (v_pick_t rfl rfl rfl) ?_
                                    refine o_q _ rfl rfl rfl (v_move rfl rfl) ?_
                                    refine o_g _ rfl rfl rfl rfl (v_move rfl rfl) ?_
                                    refine o_g _ rfl rfl rfl rfl (v_true (v_eql rfl rfl rfl) (by omega)) ?_
                                    all_goals
                                      refine o_q _ rfl rfl rfl (v_pick_t rfl rfl rfl) ?_
                                      refine o_q _ rfl rfl rfl (v_move rfl rfl) ?_
                                      refine o_g _ rfl rfl rfl rfl (v_move rfl rfl) ?_
                                      refine o_g _ rfl rfl rfl rfl (v_true (v_eql rfl rfl rfl) (by omega)) ?_
                                      all_goals
                                        refine o_q _ rfl rfl rfl (v_pick_t rfl rfl rfl) ?_
                                        refine o_q _ rfl rfl rfl (v_move rfl rfl) ?_
                                        refine o_g _ rfl rfl rfl rfl (v_move rfl rfl) ?_
                                        refine o_g _ rfl rfl rfl rfl (v_true (v_eql rfl rfl rfl) (by omega)) ?_
                                        all_goals
                                          refine o_q _ rfl rfl rfl (v_pick_t rfl rfl rfl) ?_
                                          refine o_q _ rfl rfl rfl (v_move rfl rfl) ?_
                                          refine o_g _ rfl rfl rfl rfl (v_move rfl rfl) ?_
                                          refine o_g _ rfl rfl rfl rfl (v_true (v_eql rfl rfl rfl) (by omega)) ?_
                                          all_goals
                                            refine o_q _ rfl rfl rfl (v_pick_t rfl rfl rfl) ?_
                                            refine o_q _ rfl rfl rfl (v_move rfl rfl) ?_
                                            refine o_g _ rfl rfl rfl rfl (v_move rfl rfl) ?_
                                            refine o_g _ rfl rfl rfl rfl (v_true (v_eql rfl rfl rfl) (by omega)) ?_
                                            all_goals
                                              refine o_q _ rfl rfl rfl (v_pick_t rfl rfl rfl) ?_
                                              refine o_q _ rfl rfl rfl (v_assign rfl rfl) ?_
                                              refine o_nil ?_
                                              with_reducible refine r_then ?_
                                              refine r_ret ?_
                                              exact r_retv2 (Rd.tmp rfl rfl) rfl SelMC.sel SubRC.sub
end Go.Proofs.Ytienjlmnakbfmaa


namespace Go.G
variable {P : Program} {W : World} {n : Nat} {D : List Deferred} {L : Tm} {M : List Res} {R : List Fact} {Q : Exit → Act → World → Prop} {o : Oper}
/-- It hands back v, and turns one resource into another. -/
abbrev FnC (P : Program) (k : FuncId) (args : List Value) (r : Res) (R0 : List Fact) (v : Value) (r' : Res) : Prop := FnS P k args [r] R0 (fun e M' R' => e = .returned v ∧ M' = [r'] ∧ R' = [])
theorem FnC.intro {k : FuncId} {args : List Value} {r r' : Res} {R0 : List Fact} {v : Value} {fn : Func} {c : Code} (he : ∀ (ag : Array Value) (w : World), (callFunc k ag).run P w = .ok (.enter k ag) w)
    (hf : P.funcs[k]? = some fn) (hb : fn.body = some c) (hn : fn.ntmps = n) (ha : Nat.ble args.length n = true)
    (h : ∀ W Mf Rf, Imp W n [] (argsL args 0) (r :: Mf) (R0 ++ Rf) (c.wp P (bodyPost P fn (RetE W Mf (R0 ++ Rf) (fun e M' R' => e = .returned v ∧ M' = [r'] ∧ R' = []))))) : FnC P k args r R0 v r' := FnS.intro he hf hb hn ha h
end Go.G


namespace Foot4
open Go Go.G
def T3.put (t : T3) (k : Nat) (x : Int) : T3 := if k = 0 then ⟨x, t.b, t.c⟩ else if k = 1 then ⟨t.a, x, t.c⟩ else ⟨t.a, t.b, x⟩
theorem put_enc {t : T3} {k : Nat} {x : Int} (h : k < 3) : splice (encT t) (0 + k * 1) [i64 x] = encT (t.put k x) := by
  obtain rfl | rfl | rfl : k = 0 ∨ k = 1 ∨ k = 2 := by omega
  all_goals rfl
/-- A plan, by a number: what is left of the number, from the step i on. -/
def madeF (rl : Nat) : Nat → Nat → T3 → Int → Nat → T3
  | 0, _, p, _, _ => p
  | f + 1, i, p, last, m =>
    if (rl : Int) ≤ last + 1 + (m % 3 : Nat) ∨ m / 3 % 5 = 4 then p
    else madeF rl f (i + 1) (p.put i (last + 1 + (m % 3 : Nat))) (last + 1 + (m % 3 : Nat)) (m / 3 / 2)
def madeP (rl m : Nat) : T3 := madeF rl 3 0 noneT (-1) m
theorem madeF_stop {rl f i : Nat} {p : T3} {last : Int} {m : Nat} (h : (rl : Int) ≤ last + 1 + (m % 3 : Nat) ∨ m / 3 % 5 = 4) : madeF rl (f + 1) i p last m = p := if_pos h
theorem madeF_go {rl f i : Nat} {p : T3} {last : Int} {m : Nat} (h : ¬ ((rl : Int) ≤ last + 1 + (m % 3 : Nat) ∨ m / 3 % 5 = 4)) : madeF rl (f + 1) i p last m = madeF rl f (i + 1) (p.put i (last + 1 + (m % 3 : Nat))) (last + 1 + (m % 3 : Nat)) (m / 3 / 2) := if_neg h
theorem made_plan (rl m : Nat) : IsPlan rl (madeP rl m) := by
  have h3 : ∀ m : Nat, m % 3 < 3 := fun m => Nat.mod_lt _ (by omega)
  have key : ∀ a b c : Int, -1 ≤ a → (a < rl ∨ a = -1) → (b = -1 ∨ (0 ≤ a ∧ a < b ∧ b < rl)) → (c = -1 ∨ (0 ≤ b ∧ b < c ∧ c < rl)) → IsPlan rl ⟨a, b, c⟩ := by
    intro a b c h1 h2 h4 h5
    refine ⟨fun k hk => ?_, .inr (.inl rfl), ord1.2 ?_, ord2.2 ?_⟩
    · obtain rfl | rfl | rfl : k = 0 ∨ k = 1 ∨ k = 2 := by omega
      · show -1 ≤ a ∧ a ≤ (rl : Int) - 1; omega
      · show -1 ≤ b ∧ b ≤ (rl : Int) - 1; omega
      · show -1 ≤ c ∧ c ≤ (rl : Int) - 1; omega
    · show b < 0 ∨ 0 ≤ a ∧ a < b; omega
    · show c < 0 ∨ 0 ≤ b ∧ b < c; omega
  have q0 : ∀ x : Int, noneT.put 0 x = ⟨x, -1, -1⟩ := fun _ => rfl
  have q1 : ∀ a b c x : Int, (⟨a, b, c⟩ : T3).put 1 x = ⟨a, x, c⟩ := fun _ _ _ _ => rfl
  have q2 : ∀ a b c x : Int, (⟨a, b, c⟩ : T3).put 2 x = ⟨a, b, x⟩ := fun _ _ _ _ => rfl
  unfold madeP
  simp only [madeF, Nat.zero_add, Nat.reduceAdd, q0, q1, q2]
  split
  · exact key _ _ _ (by decide) (.inr rfl) (.inl rfl) (.inl rfl)
  · rename_i h0
    split
    · exact key _ _ _ (by omega) (.inl (by omega)) (.inl rfl) (.inl rfl)
    · rename_i h1
      split
      · exact key _ _ _ (by omega) (.inl (by omega)) (.inr ⟨by omega, by omega, by omega⟩) (.inl rfl)
      · rename_i h2
        exact key _ _ _ (by omega) (.inl (by omega)) (.inr ⟨by omega, by omega, by omega⟩) (.inr ⟨by omega, by omega, by omega⟩)
@[reducible] def encI (x : Int) : List Value := [i64 x]
@[reducible] def encU (x : Int) : List Value := [.int .u16 x]
def U16s (by_ : List Int) : Prop := ∀ x ∈ by_, 0 ≤ x ∧ x ≤ 65535
def drawP (by_ : List Int) (k : Nat) (s : Span) : Int :=
  if (by_.length : Int) = 0 then s.lo else s.lo + (by_.getD (k % by_.length) 0 + 47 * k).tmod (s.hi - s.lo + 1)
/-- A truth: how much it rains, how wet heaps are at first. -/
structure Tru where
  rain : List Int
  first : List Int
def rainTo (F : Work) (f : Nat → Span → Int) (k : Nat) : List Int := (List.range k).map fun i => f (i + 1) (F.rain.getD i default)
def firstTo (F : Work) (f : Nat → Span → Int) (k : Nat) : List Int := (List.range k).map fun i => f (F.rain.length + i + 1) ⟨(F.heaps.getD i default).lo, (F.heaps.getD i default).hi⟩
def truF (F : Work) (f : Nat → Span → Int) : Tru := ⟨rainTo F f F.rain.length, firstTo F f F.heaps.length⟩
abbrev trulyT (F : Work) (by_ : List Int) : Tru := truF F (drawP by_)
abbrev endsT (F : Work) (wettest : Bool) : Tru := truF F (fun _ s => if wettest then s.hi else s.lo)
@[reducible] def valT (t : Tru) (ra fa : Option Addr) (rc fc : Nat) : Value := .agg #[.slice ra t.rain.length rc, .slice fa t.first.length fc]
/-- A truth that fits. -/
structure GoodT (F : Work) (t : Tru) : Prop where
  rl : t.rain.length = F.rain.length
  fl : t.first.length = F.heaps.length
  rain : ∀ k, k < F.rain.length → (F.rain.getD k default).lo ≤ t.rain.getD k 0 ∧ t.rain.getD k 0 ≤ (F.rain.getD k default).hi
  first : ∀ k, k < F.heaps.length → (F.heaps.getD k default).lo ≤ t.first.getD k 0 ∧ t.first.getD k 0 ≤ (F.heaps.getD k default).hi
/-- How wet a heap is, and how many steps are done, in a truth. -/
def wS (F : Work) (t : Tru) (heap : Nat) (p : T3) : Nat → Int × Nat
  | 0 => (t.first.getD heap 0, 0)
  | d + 1 =>
    let s := wS F t heap p d
    let k := if s.2 < 3 ∧ p.at s.2 = d then s.2 + 1 else s.2
    (if k < 3 then step s.1 (t.rain.getD d 0) (F.dr.at k) else s.1, k)
def wetT (F : Work) (t : Tru) (heap : Nat) (p : T3) (d : Nat) : Int := (wS F t heap p d).1
def wetL (F : Work) (t : Tru) (heap : Nat) (p : T3) (k : Nat) : List Int := (List.range (k + 1)).map (wetT F t heap p)
def keepsB (F : Work) (t : Tru) (heap : Nat) (p : T3) (i : Nat) : Prop := p.at i < 0 ∨ wetT F t heap p (p.at i).toNat ≤ F.lim.at i
instance (F : Work) (t : Tru) (heap : Nat) (p : T3) (i : Nat) : Decidable (keepsB F t heap p i) := by unfold keepsB; infer_instance
def keepsT (F : Work) (t : Tru) (heap : Nat) (p : T3) : Prop := ∀ i, i < 3 → keepsB F t heap p i
instance (F : Work) (t : Tru) (heap : Nat) (p : T3) : Decidable (keepsT F t heap p) := by unfold keepsT; infer_instance
end Foot4
namespace Foot4
open Go Go.G
section
variable {F : Work} {t : Tru} {heap : Nat} {p : T3} {k w : Nat} {n : Int}
end
end Foot4


namespace Go.Proofs.Ytienjlmnakbfmaa
open Go.G Foot4
set_option maxRecDepth 1000000
attribute [local irreducible] G.ParO G.Fin
set_option maxHeartbeats 4000000 in
theorem fine_v (F : Work) (ro ho : Option Addr) (rc hc : Nat) : FnV Try.prog 31 [valF F ro rc ho hc] [rowD ro 2 encS F.rain, rowD ho 3 encH F.heaps] (.bool (decide (GoodF F))) := by
  refine FnV.intro Try.call31 Try.func31 rfl Try.ntmps31 rfl ?_
  intro W M Rf
  refine r_seq ?_
  refine r_region ?_
  refine o_boxA rfl rfl rfl rfl rfl (fun b1 => ?_)
  refine o_q _ rfl rfl rfl (v_assign rfl rfl) ?_
  refine o_nil ?_
  with_reducible refine r_then ?_
  refine r_seq ?_
  refine r_region ?_
  refine o_q _ rfl rfl rfl (v_ldW rfl Try.underlying26 rfl inf26 rfl rfl) ?_
  refine o_test rfl rfl rfl (OpQ.fn (far_v F ro ho rc hc _ _ _) rfl rfl SubRC.sub) (fun h4 => ?_) (fun h4 => ?_)
  all_goals
    refine o_q _ rfl rfl rfl (v_not rfl rfl) ?_
    refine o_q _ rfl rfl rfl (v_move rfl rfl) ?_
    first | refine o_gn rfl rfl rfl rfl ?_ | refine o_g _ rfl rfl rfl rfl (v_ldW rfl Try.underlying26 rfl inf26 rfl rfl) ?_
    first | refine o_gn rfl rfl rfl rfl ?_ | refine o_g _ rfl rfl rfl rfl (OpQ.fn (Foot_v F ro ho rc hc (by omega) (by omega)) rfl rfl SubRC.sub) ?_
    first | refine o_q _ rfl rfl rfl (v_pick_t rfl rfl rfl) ?_ | refine o_q _ rfl rfl rfl (v_pick_f rfl rfl rfl) ?_
    refine o_q _ rfl rfl rfl (v_assign rfl rfl) ?_
    refine o_nil ?_
    with_reducible refine r_then ?_
    refine r_ret ?_
    first
    | exact r_retv2 (Rd.tmp rfl rfl) rfl SelMC.sel SubRC.sub
    | exact r_retv2 (Rd.tmp rfl rfl) (congrArg Value.bool (decide_eq_false (fun g => by have := g.1; have := g.2.2.1; omega)).symm) SelMC.sel SubRC.sub
theorem tmod_nat {a b : Nat} : ((a : Int)).tmod (b : Int) = ((a % b : Nat) : Int) := by
  rw [Int.tmod_eq_emod_of_nonneg (by omega)]; rfl
theorem tdiv_nat {a b : Nat} : ((a : Int)).tdiv (b : Int) = ((a / b : Nat) : Int) := by
  rw [Int.tdiv_eq_ediv_of_nonneg (by omega)]; rfl
set_option maxHeartbeats 4000000 in
theorem made_v (F : Work) (ro ho : Option Addr) (rc hc : Nat) (m0 : Nat) (hm : m0 ≤ 65535) (hr : F.rain.length ≤ 40) : FnV Try.prog 32 [valF F ro rc ho hc, i64 m0] [rowD ro 2 encS F.rain, rowD ho 3 encH F.heaps] (.agg #[i64 (madeP F.rain.length m0).a, i64 (madeP F.rain.length m0).b, i64 (madeP F.rain.length m0).c]) := by
  refine FnV.intro Try.call32 Try.func32 rfl Try.ntmps32 rfl ?_
  intro W M Rf
  refine r_seq ?_
  refine r_region ?_
  refine o_boxA rfl rfl rfl rfl rfl (fun b2 => ?_)
  refine o_alloc rfl inf27 rfl rfl rfl rfl rfl (fun b4 => ?_)
  refine o_nil ?_
  with_reducible refine r_then ?_
  refine r_seq ?_
  refine r_region ?_
  refine o_q _ rfl rfl rfl (OpQ.fn None_v rfl rfl SubRC.sub) ?_
  refine o_alloc rfl inf27 rfl rfl rfl rfl rfl (fun b5 => ?_)
  refine o_st rfl inf27 rfl rfl rfl rfl rfl rfl rfl rfl ?_
  refine o_nil ?_
  with_reducible refine r_then ?_
  refine r_seq ?_
  refine r_region ?_
  refine o_q _ rfl rfl rfl (v_assign rfl rfl) ?_
  refine o_nil ?_
  with_reducible refine r_then ?_
  refine r_seq ?_
  refine r_seq ?_
  refine r_region ?_
  refine o_q _ rfl rfl rfl (v_move rfl rfl) ?_
  refine o_nil ?_
  with_reducible refine r_then ?_
  refine r_block ?_
  refine r_loop (ι := Nat × T3 × Int × Nat) (fun gh => gh.1 ≤ 3 ∧ madeF F.rain.length (3 - gh.1) gh.1 gh.2.1 gh.2.2.1 gh.2.2.2 = madeP F.rain.length m0 ∧ gh.2.2.2 ≤ 65535 ∧ -1 ≤ gh.2.2.1 ∧ gh.2.2.1 ≤ 41) (fun gh => [(1, i64 gh.2.2.2), (2, pt b2 0), (4, pt b4 0), (5, pt b5 0), (6, i64 gh.2.2.1), (10, i64 gh.1)]) (fun gh => bx b5 27 (encT gh.2.1) :: bx b4 27 [i64 0, i64 0, i64 0] :: bx b2 26 (cellsF F ro rc ho hc) :: M) (fun gh => [rowD ro 2 encS F.rain, rowD ho 3 encH F.heaps] ++ Rf) (fun gh => 3 - gh.1) (0, noneT, -1, m0) ?_ ?_ ?_
  ·
    refine Imp.box_to b5 (encT noneT) rfl ?_
    refine Imp.box_to b4 [i64 0, i64 0, i64 0] rfl ?_
    exact r_here (by repeat (first | exact FSub.nil | refine FSub.cons rfl ?_)) SelMC.sel SubRC.sub
  ·
    exact ⟨by omega, rfl, hm, show (-1 : Int) ≤ -1 by decide, show (-1 : Int) ≤ 41 by decide⟩
  ·
    rintro ⟨i, p, last, m⟩ hI0
    dsimp only at hI0
    dsimp only
    have hI1 : i ≤ 3 := hI0.1
    have hm3 : m ≤ 65535 := hI0.2.2.1
    have hla : -1 ≤ last ∧ last ≤ 41 := hI0.2.2.2
    refine r_seq ?_
    refine r_region ?_
    refine o_q _ rfl rfl rfl (v_lss rfl rfl rfl) ?_
    refine o_nil ?_
    with_reducible refine r_then ?_
    refine r_seq ?_
    refine r_condd rfl (fun hc11 => ?_) (fun hc11 => ?_)
    ·
      refine r_skip ?_
      with_reducible refine r_then ?_
      refine r_seq ?_
      refine r_block ?_
      refine r_seq ?_
      refine r_region ?_
      refine o_q _ rfl rfl rfl (v_move rfl rfl) ?_
      refine o_q _ rfl rfl rfl (v_assign rfl rfl) ?_
      refine o_nil ?_
      with_reducible refine r_then ?_
      refine r_seq ?_
      refine r_region ?_
      refine o_q _ rfl rfl rfl (v_move rfl rfl) ?_
      refine o_q _ rfl rfl rfl (v_add rfl rfl rfl (by omega)) ?_
      refine o_q _ rfl rfl rfl (v_move rfl rfl) ?_
      refine o_q _ rfl rfl rfl (v_cast (v := i64 ((m % 3 : Nat) : Int)) (v_rem rfl rfl rfl (by decide)) (congrArg (Value.int .i64) (tmod_nat (a := m) (b := 3)))) ?_
      refine o_q _ rfl rfl rfl (v_add rfl rfl rfl (by omega)) ?_
      refine o_q _ rfl rfl rfl (v_assign rfl rfl) ?_
      refine o_nil ?_
      with_reducible refine r_then ?_
      refine r_seq ?_
      refine r_region ?_
      refine o_q _ rfl rfl rfl (v_move rfl rfl) ?_
      refine o_q _ rfl rfl rfl (v_cast (v := i64 ((m / 3 : Nat) : Int)) (v_quo rfl rfl rfl (by decide) (by rw [show ((m : Nat) : Int).tdiv 3 = ((m / 3 : Nat) : Int) from tdiv_nat (a := m) (b := 3)]; omega)) (congrArg (Value.int .i64) (tdiv_nat (a := m) (b := 3)))) ?_
      refine o_q _ rfl rfl rfl (v_assign rfl rfl) ?_
      refine o_nil ?_
      with_reducible refine r_then ?_
      refine r_seq ?_
      refine r_seq ?_
      refine r_region ?_
      refine o_q _ rfl rfl rfl (v_move rfl rfl) ?_
      refine o_q _ rfl rfl rfl (v_fieldAddr rfl Try.underlying26 inf22 rfl rfl rfl rfl) ?_
      refine o_q _ rfl rfl rfl (v_ld1 rfl Try.underlying22 rfl rfl rfl) ?_
      refine o_q _ rfl rfl rfl (v_len rfl rfl Try.underlying22 rfl) ?_
      refine o_test rfl rfl rfl (v_geq rfl rfl rfl) (fun h24 => ?_) (fun h24 => ?_)
      all_goals
        refine o_q _ rfl rfl rfl (v_move rfl rfl) ?_
        first | refine o_gn rfl rfl rfl rfl ?_ | refine o_g _ rfl rfl rfl rfl (v_move rfl rfl) ?_
        first | refine o_gn rfl rfl rfl rfl ?_ | refine o_g _ rfl rfl rfl rfl (v_cast (v := i64 (((m / 3) % 5 : Nat) : Int)) (v_rem rfl rfl rfl (by decide)) (congrArg (Value.int .i64) (tmod_nat (a := (m / 3)) (b := 5)))) ?_
        first | refine o_gn rfl rfl rfl rfl ?_ | refine o_gtest rfl rfl rfl rfl (v_eql rfl rfl rfl) (fun h28 => ?_) (fun h28 => ?_)
        all_goals
          first | refine o_q _ rfl rfl rfl (v_pick_t rfl rfl rfl) ?_ | refine o_q _ rfl rfl rfl (v_pick_f rfl rfl rfl) ?_
          refine o_nil ?_
          with_reducible refine r_then ?_
          refine r_cond rfl (fun hc29 => ?_) (fun hc29 => ?_)
          ·
            first
            | (exfalso; revert hc29; decide)
            | skip
              refine r_exit ?_
              with_reducible refine r_then_exit ?_; (refine r_in_past (by decide) ?_); refine r_then_exit ?_; refine r_then_exit ?_; refine r_in_here ?_; refine r_then ?_
              refine r_seq ?_
              refine r_region ?_
              refine o_q _ rfl rfl rfl (v_ldW rfl Try.underlying27 rfl inf27 rfl rfl) ?_
              refine o_st rfl inf27 rfl rfl rfl rfl rfl rfl rfl rfl ?_
              refine o_nil ?_
              with_reducible refine r_then ?_
              refine r_ret ?_
              have hp : p = madeP F.rain.length m0 := by
                rw [← hI0.2.1]
                by_cases h3 : i = 3
                · subst h3; rfl
                · rw [show 3 - i = (3 - (i + 1)) + 1 from by omega]; exact (madeF_stop (by omega)).symm
              subst hp
              exact r_retv2 (Rd.one rfl (RdI.cellW Try.underlying27 rfl inf27 rfl rfl)) rfl SelMC.sel SubRC.sub
          ·
            first
            | (exfalso; revert hc29; decide)
            | skip
              refine r_skip ?_
              with_reducible refine r_then ?_
              refine r_seq ?_
              refine r_region ?_
              refine o_q _ rfl rfl rfl (v_move rfl rfl) ?_
              refine o_q _ rfl rfl rfl (v_move rfl rfl) ?_
              refine o_q _ rfl rfl rfl (v_move rfl rfl) ?_
              refine o_q _ rfl rfl rfl (v_indexAddrAn rfl Try.underlying27 inf3 rfl rfl (by omega)) ?_
              refine o_st (B := 27) (vs := encT p) rfl inf3 rfl rfl rfl rfl rfl rfl rfl (ble1 (by show i < 3; omega)) ?_
              refine o_q _ rfl rfl rfl (v_assign rfl rfl) ?_
              refine o_nil ?_
              with_reducible refine r_then ?_
              refine r_region ?_
              refine o_q _ rfl rfl rfl (v_move rfl rfl) ?_
              refine o_q _ rfl rfl rfl (v_cast (v := i64 (((m / 3) / 2 : Nat) : Int)) (v_quo rfl rfl rfl (by decide) (by rw [show (((m / 3) : Nat) : Int).tdiv 2 = (((m / 3) / 2 : Nat) : Int) from tdiv_nat (a := (m / 3)) (b := 2)]; omega)) (congrArg (Value.int .i64) (tdiv_nat (a := (m / 3)) (b := 2)))) ?_
              refine o_q _ rfl rfl rfl (v_assign rfl rfl) ?_
              refine o_nil ?_
              with_reducible refine r_in_normal ?_; refine r_then ?_
              refine r_region ?_
              refine o_q _ rfl rfl rfl (v_add rfl rfl rfl (by omega)) ?_
              refine o_q _ rfl rfl rfl (v_move rfl rfl) ?_
              refine o_nil ?_
              with_reducible refine r_then ?_
              exact r_next ((i + 1, p.put i (last + 1 + (m % 3 : Nat)), last + 1 + (m % 3 : Nat), m / 3 / 2)) (by refine Imp.box_to b5 (encT (p.put i (last + 1 + (m % 3 : Nat)))) (put_enc (by omega)) ?_; exact r_here (by repeat (first | exact FSub.nil | refine FSub.cons rfl ?_)) SelMC.sel SubRC.sub) (by exact ⟨by show i + 1 ≤ 3; omega, by rw [← hI0.2.1, show 3 - i = (3 - (i + 1)) + 1 from by omega]; exact (madeF_go (by omega)).symm, by show m / 3 / 2 ≤ 65535; omega, by show -1 ≤ last + 1 + ((m % 3 : Nat) : Int); omega, by show last + 1 + ((m % 3 : Nat) : Int) ≤ 41; omega⟩) (by first | omega | (show _ - (_ + 1) < _ - _; omega))
    ·
      refine r_exit ?_
      with_reducible refine r_then_exit ?_; refine r_then_exit ?_; refine r_in_here ?_; refine r_then ?_
      refine r_seq ?_
      refine r_region ?_
      refine o_q _ rfl rfl rfl (v_ldW rfl Try.underlying27 rfl inf27 rfl rfl) ?_
      refine o_st rfl inf27 rfl rfl rfl rfl rfl rfl rfl rfl ?_
      refine o_nil ?_
      with_reducible refine r_then ?_
      refine r_ret ?_
      have hp : p = madeP F.rain.length m0 := by
        rw [← hI0.2.1]
        by_cases h3 : i = 3
        · subst h3; rfl
        · rw [show 3 - i = (3 - (i + 1)) + 1 from by omega]; exact (madeF_stop (by omega)).symm
      subst hp
      exact r_retv2 (Rd.one rfl (RdI.cellW Try.underlying27 rfl inf27 rfl rfl)) rfl SelMC.sel SubRC.sub
end Go.Proofs.Ytienjlmnakbfmaa


namespace Go.Proofs.Ytienjlmnakbfmaa
open Go.G Foot4
set_option maxRecDepth 1000000
attribute [local irreducible] G.ParO G.Fin
end Go.Proofs.Ytienjlmnakbfmaa


namespace Go.Proofs.Ytienjlmnakbfmaa
open Go.G Foot4
set_option maxRecDepth 1000000
attribute [local irreducible] G.ParO G.Fin
end Go.Proofs.Ytienjlmnakbfmaa


namespace Go.G
variable {P : Program} {W : World} {n : Nat} {D : List Deferred} {L : Tm} {M : List Res} {R : List Fact} {Q : Exit → Act → World → Prop} {o : Oper}
/-- A slice that is made, in the free part: known from then on. -/
abbrev Spc.mk' {α : Type} (l c sz : Nat) (enc : α → List Value) (z0 : α) : Spc := Spc.g (fun v => v = .slice (some ⟨sblk v, 0, none⟩) (List.replicate l z0).length c) (fun _ => []) (fun v => [rowD (some ⟨sblk v, 0, none⟩) sz enc (List.replicate l z0)])
end Go.G


namespace Go.G
variable {P : Program} {W : World} {n : Nat} {D : List Deferred} {L : Tm} {M : List Res} {R : List Fact} {Q : Exit → Act → World → Prop} {o : Oper}
/-- A store that fills a new variable, the whole of it. -/
theorem p_stl {ops : Array Oper} {K : List Spc → Prop} {rest : List Oper} {acc : List Spc} {T B : TypeId} {x : Nat} {y : Operand} {zs us : List Value} {v : Value} {i : TypeInfo} (j : Nat) {oj : Oper} (hg : o.guard = none) (hdst : o.dst = none) (ho : o.op = .store T (.tmp x) y) (hi : P.info? T = some i)
    (hoj : ops[j]? = some oj) (hx : oj.dst.getD 1000000 = x) (hsj : acc[j]? = some (Spc.al isPt (boxAt B zs) acc.length (boxAt B us))) (hdep : depOn o j = true) (hy : ∀ u, ev ((x, u) :: L) y = some v) (hc : v.cells.toList = us) (hsz : us.length = i.size) (hl : zs.length = us.length) (h1 : oneCells us = true)
    (h : ParO P W n M R ops K rest (acc ++ [Spc.s j]) L) : ParO P W n M R ops K (o :: rest) acc L := by
  refine p_upd5 (r := boxAt B us) hg hdst hoj hsj rfl rfl hdep (fun u hu => ?_) h
  obtain ⟨b, rfl⟩ := hu
  rw [hx]
  intro Mx Rx a w g1 g3
  have g3 : St W (Mx ++ (bx b B zs :: M)) (Rx ++ R) w := g3
  obtain ⟨w', hr, hw'⟩ := run_storeCells' (P := P) us 0 0 (b := b) (T := B) (vs := zs) (M' := Mx ++ (bx b B us :: M)) g3 (by rw [Nat.zero_add, splice_all hl]; exact ⟨Mx, M, rfl, rfl⟩) (oneCells_mem h1) (by omega)
  have hcs : v.cells.size = i.size := by rw [← hsz, ← hc]; simp
  have hxe : ev ((x, pt b 0) :: L) (.tmp x) = some (pt b 0) := by simp [ev, look_cons_eq]
  have hrun : (execOp a.eval o).run P w = .ok .skip w' := by
    simp [execOp, ho, g1.ev hxe, g1.ev (hy _), Instr.storeAt, pt, Instr.sureAddr, storeVar, run_sizeOf' hi, hcs, hc, hr]
  rw [hrun]
  refine ⟨rfl, ?_⟩
  refine hw'.perm ?_
  show (Mx ++ (bx b B us :: M)).Perm ([bx b B us] ++ (Mx ++ M))
  exact List.perm_middle
end Go.G


namespace Foot4
open Go Go.G
/-! ### what the program answers, where all is right -/
theorem canP_at {F : Work} (hg : GoodF F) {heap : Nat} {p : T3} (hh : heap < F.heaps.length) (hp : IsPlan F.rain.length p) : canP F heap p = (keptP F heap p, 0) := by
  rw [canP_ok hg (by simp [hp]; omega)]
  simp
theorem none_plan (n : Nat) (hn : 1 ≤ n) : IsPlan n noneT := by
  refine ⟨fun k hk => ?_, .inr (.inl rfl), ord1.2 (.inl (by decide)), ord2.2 (.inl (by decide))⟩
  obtain rfl | rfl | rfl : k = 0 ∨ k = 1 ∨ k = 2 := by omega
  all_goals (show -1 ≤ (-1 : Int) ∧ (-1 : Int) ≤ n - 1; omega)
def bads (n : Nat) : List T3 := [⟨0, 0, -1⟩, ⟨-1, 0, -1⟩, ⟨0, n, -1⟩, ⟨-2, -1, -1⟩]
theorem kept_2 {F : Work} {heap : Nat} {p : T3} : keptP F heap p = 2 ↔ keptF selW F heap p := by
  unfold keptP
  by_cases h : keptF selW F heap p
  · simp [h]
  · by_cases h' : keptF selD F heap p <;> simp [h, h']
end Foot4


namespace Go.Proofs.Ytienjlmnakbfmaa
open Go.G Foot4
set_option maxRecDepth 1000000
attribute [local irreducible] G.ParO G.Fin
variable (F : Work) (ro ho : Option Addr) (rc hc : Nat)
theorem ECan_v (hg : GoodF F) (heap : Nat) (p : T3) (hp : IsPlan F.rain.length p) (hh : heap < F.heaps.length) {k : Int} (hk : keptP F heap p = k) : FnV Try.prog 17 [valF F ro rc ho hc, i64 heap, .agg #[i64 p.a, i64 p.b, i64 p.c]] [rowD ro 2 encS F.rain, rowD ho 3 encH F.heaps] (.tuple #[i64 k, i64 0]) := by
  have h := CanP_v F ro ho rc hc heap p.a p.b p.c (by have := hg.1; omega) (by have := hg.2.2.1; omega)
  rw [show (⟨p.a, p.b, p.c⟩ : T3) = p from rfl, canP_at hg hh hp, hk] at h; exact h
theorem EMade_v (hg : GoodF F) (m0 : Nat) (hm : m0 ≤ 65535) : FnV Try.prog 32 [valF F ro rc ho hc, i64 m0] [rowD ro 2 encS F.rain, rowD ho 3 encH F.heaps] (.agg #[i64 (madeP F.rain.length m0).a, i64 (madeP F.rain.length m0).b, i64 (madeP F.rain.length m0).c]) := made_v F ro ho rc hc m0 hm (by have := hg.1; omega)
end Go.Proofs.Ytienjlmnakbfmaa


namespace Foot4
open Go Go.G
theorem whole_in {n : Nat} {p : T3} (hp : IsPlan n p) (hw : 0 ≤ p.a ∧ 0 ≤ p.b ∧ 0 ≤ p.c) : p ∈ whole n := by
  have h1 := ord1.1 hp.2.2.1
  have h2 := ord2.1 hp.2.2.2
  have h3 : -1 ≤ p.c ∧ p.c ≤ (n : Int) - 1 := hp.1 2 (by omega)
  obtain ⟨a, b, c⟩ := p
  dsimp only at *
  have := whole_at (n := n) (a := a.toNat) (b := b.toNat) (c := c.toNat) (by omega) (by omega) (by omega)
  rw [show ((a.toNat : Nat) : Int) = a from by omega, show ((b.toNat : Nat) : Int) = b from by omega, show ((c.toNat : Nat) : Int) = c from by omega] at this
  exact List.mem_of_getElem? this
theorem whole_plan' {n : Nat} {p : T3} (h : p ∈ whole n) : IsPlan n p ∧ (0 ≤ p.a ∧ 0 ≤ p.b ∧ 0 ≤ p.c) := by
  obtain ⟨a, b, c, rfl, h1, h2, h3⟩ := whole_mem h
  refine ⟨⟨fun k hk => ?_, .inr (.inl rfl), ord1.2 (.inr ⟨by show (0 : Int) ≤ a; omega, by show (a : Int) < b; omega⟩), ord2.2 (.inr ⟨by show (0 : Int) ≤ b; omega, by show (b : Int) < c; omega⟩)⟩, by show (0 : Int) ≤ a; omega, by show (0 : Int) ≤ b; omega, by show (0 : Int) ≤ c; omega⟩
  have := whole_days h k hk
  omega
theorem sure_of {sel : Int → Int → Int} {F : Work} {heap : Nat} {p : T3} (hp : IsPlan F.rain.length p) (hw : 0 ≤ p.a ∧ 0 ≤ p.b ∧ 0 ≤ p.c) (hk : keptF sel F heap p) : p ∈ sureF sel F heap :=
  List.mem_filter.2 ⟨whole_in hp hw, by simp [keptB, hk]⟩
theorem sureQ_of {sel : Int → Int → Int} {F : Work} {heap : Nat} {p : T3} (h : p ∈ sureF sel F heap) : sureQ sel F heap = true := by
  have := List.length_pos_of_mem h
  simp [sureQ]; omega
/-- The first of the best ones. -/
theorem best1_spec {l : List T3} : ∀ k, 0 < k → k ≤ l.length → ∃ i, i < k ∧ l.getD i default = best1 soon default l k ∧ (∀ j, j < k → (best1 soon default l k).c ≤ (l.getD j default).c) ∧ (∀ j, j < i → (best1 soon default l k).c < (l.getD j default).c)
  | 0, h, _ => by omega
  | k + 1, _, hl => by
    by_cases h0 : k = 0
    · subst h0
      rw [best1_yes (.inl rfl)]
      refine ⟨0, by omega, rfl, fun j hj => ?_, fun j hj => by omega⟩
      obtain rfl : j = 0 := by omega
      exact Int.le_refl _
    · obtain ⟨i, hi, he, ha, hb⟩ := best1_spec (l := l) k (by omega) (by omega)
      by_cases hs : (l.getD k default).c < (best1 soon default l k).c
      · rw [best1_yes (.inr (by simp only [soon]; exact decide_eq_true hs))]
        refine ⟨k, by omega, rfl, fun j hj => ?_, fun j hj => ?_⟩
        · by_cases e : j = k
          · subst e; exact Int.le_refl _
          · have := ha j (by omega); omega
        · have := ha j (by omega); omega
      · rw [best1_no h0 (soon_no hs)]
        refine ⟨i, by omega, he, fun j hj => ?_, hb⟩
        by_cases e : j = k
        · subst e; omega
        · exact ha j (by omega)
def lex (p q : T3) : Prop := p.a < q.a ∨ p.a = q.a ∧ (p.b < q.b ∨ p.b = q.b ∧ p.c < q.c)
theorem whole_sorted (n : Nat) : (whole n).Pairwise lex := by
  have hcs : ∀ a b : Nat, (cs3 n a b).Pairwise lex := by
    intro a b
    unfold cs3
    rw [List.pairwise_map]
    refine List.Pairwise.imp ?_ (List.pairwise_lt_range' 1)
    intro c d h
    exact .inr ⟨rfl, .inr ⟨rfl, by show (c : Int) < d; omega⟩⟩
  have hbs : ∀ a : Nat, (bs3 n a).Pairwise lex := by
    intro a
    unfold bs3
    rw [List.pairwise_flatMap]
    refine ⟨fun b _ => hcs a b, List.Pairwise.imp ?_ (List.pairwise_lt_range' 1)⟩
    intro b b' h x hx y hy
    unfold cs3 at hx hy
    obtain ⟨c, _, rfl⟩ := List.mem_map.1 hx
    obtain ⟨c', _, rfl⟩ := List.mem_map.1 hy
    exact .inr ⟨rfl, .inl (by show (b : Int) < b'; omega)⟩
  unfold whole
  rw [List.pairwise_flatMap]
  refine ⟨fun a _ => hbs a, List.pairwise_lt_range.imp ?_⟩
  intro a a' h x hx y hy
  unfold bs3 at hx hy
  obtain ⟨b, _, hx⟩ := List.mem_flatMap.1 hx
  obtain ⟨b', _, hy⟩ := List.mem_flatMap.1 hy
  unfold cs3 at hx hy
  obtain ⟨c, _, rfl⟩ := List.mem_map.1 hx
  obtain ⟨c', _, rfl⟩ := List.mem_map.1 hy
  exact .inl (by show (a : Int) < a'; omega)
/-- The soonest is one of them; no other is sooner, nor as soon and before it. -/
theorem soonL_spec {sel : Int → Int → Int} {F : Work} {heap : Nat} (h : sureQ sel F heap = true) : soonL (sureF sel F heap) ∈ sureF sel F heap ∧ ∀ p ∈ sureF sel F heap, (soonL (sureF sel F heap)).c < p.c ∨ (soonL (sureF sel F heap)).c = p.c ∧ (p = soonL (sureF sel F heap) ∨ lex (soonL (sureF sel F heap)) p) := by
  have hpos : 0 < (sureF sel F heap).length := by
    have h : 0 < ((sureF sel F heap).length : Int) := of_decide_eq_true h
    omega
  have hso : (sureF sel F heap).Pairwise lex := (whole_sorted _).filter _
  obtain ⟨i, hi, he, ha, hb⟩ := best1_spec (l := sureF sel F heap) _ hpos (Nat.le_refl _)
  have he : (sureF sel F heap).getD i default = soonL (sureF sel F heap) := he
  have ha : ∀ j, j < (sureF sel F heap).length → (soonL (sureF sel F heap)).c ≤ ((sureF sel F heap).getD j default).c := ha
  have hb : ∀ j, j < i → (soonL (sureF sel F heap)).c < ((sureF sel F heap).getD j default).c := hb
  have get : ∀ j, j < (sureF sel F heap).length → (sureF sel F heap)[j]? = some ((sureF sel F heap).getD j default) := fun j hj => by simp [hj]
  refine ⟨by rw [← he]; exact List.mem_of_getElem? (get i hi), fun p hp => ?_⟩
  obtain ⟨j, hj⟩ := List.mem_iff_getElem?.1 hp
  have hjl := (List.getElem?_eq_some_iff.1 hj).1
  have hpe : (sureF sel F heap).getD j default = p := Option.some.inj ((get j hjl).symm.trans hj)
  have h1 := ha j hjl
  rw [hpe] at h1
  by_cases hlt : (soonL (sureF sel F heap)).c < p.c
  · exact .inl hlt
  · have heq : (soonL (sureF sel F heap)).c = p.c := by omega
    refine .inr ⟨heq, ?_⟩
    rcases Nat.lt_trichotomy i j with h2 | h2 | h2
    · right
      have e1 := get i hi
      have e2 := get j hjl
      rw [he] at e1
      rw [hpe] at e2
      have g1 := (List.getElem?_eq_some_iff.1 e1)
      have g2 := (List.getElem?_eq_some_iff.1 e2)
      obtain ⟨l1, g1⟩ := g1
      obtain ⟨l2, g2⟩ := g2
      have := List.pairwise_iff_getElem.1 hso i j l1 l2 h2
      rwa [g1, g2] at this
    · left; subst h2; rw [← hpe, he]
    · have := hb j h2
      rw [hpe] at this; omega
theorem soonP_yes {F : Work} (hg : GoodF F) {heap : Nat} (hh : heap < F.heaps.length) (hq : sureQ selW F heap = true) : soonP F heap = (soonL (sureF selW F heap), 0) := by
  have h : 0 < ((sureF selW F heap).length : Int) := of_decide_eq_true hq
  rw [soonP_ok hg (decide_eq_true (by omega)) (by simpa using h)]; simp
theorem soonP_no {F : Work} (hg : GoodF F) {heap : Nat} (hh : heap < F.heaps.length) (hq : sureQ selW F heap = false) : soonP F heap = (default, 4) := by
  have h : ¬ 0 < ((sureF selW F heap).length : Int) := of_decide_eq_false hq
  rw [soonP_none hg (decide_eq_true (by omega)) (by simpa using h)]
end Foot4


namespace Go.Proofs.Ytienjlmnakbfmaa
open Go.G Foot4
set_option maxRecDepth 1000000
attribute [local irreducible] G.ParO G.Fin
variable (F : Work) (ro ho : Option Addr) (rc hc : Nat)
end Go.Proofs.Ytienjlmnakbfmaa


namespace Go.G
variable {P : Program} {W : World} {n : Nat} {D : List Deferred} {L : Tm} {M : List Res} {R : List Fact} {Q : Exit → Act → World → Prop} {o : Oper}
end Go.G


namespace Foot4
open Go Go.G
end Foot4


namespace Go.Proofs.Ytienjlmnakbfmaa
open Go.G Foot4
set_option maxRecDepth 1000000
attribute [local irreducible] G.ParO G.Fin
variable (F : Work) (ro ho : Option Addr) (rc hc : Nat)
end Go.Proofs.Ytienjlmnakbfmaa


namespace Go.G
variable {P : Program} {W : World} {n : Nat} {D : List Deferred} {L : Tm} {M : List Res} {R : List Fact} {Q : Exit → Act → World → Prop} {o : Oper}
structure Cm (f : Int → Int) (l : List MapEntry) : Prop where
  all : ∀ e ∈ l, ∃ z, (Lit.int .i64 z).wf = true ∧ e.key = (Value.int .i64 z) ∧ e.val = (Value.int .i64 (f z))
  nodup : (l.map MapEntry.key).Nodup
  zero : ∀ z, f z ≠ 0 → ∃ e ∈ l, e.key = (Value.int .i64 z)
def cmap (b : Nat) (f : Int → Int) : Res := fun s => ∃ es clock, s = [(b, .map es clock)] ∧ Cm f es.toList
def updF (f : Int → Int) (z y : Int) : Int → Int := fun x => if x = z then y else f x
theorem Cm.push {f : Int → Int} {l : List MapEntry} {z y : Int} {clock : Nat} (h : Cm f l) (hw : (Lit.int .i64 z).wf = true) (hn : ∀ e ∈ l, e.key ≠ (Value.int .i64 z)) : Cm (updF f z y) (l ++ [{ key := (Value.int .i64 z), val := (Value.int .i64 y), born := clock }]) := by
  refine ⟨fun e he => ?_, ?_, fun z' hz' => ?_⟩
  · rcases List.mem_append.1 he with he | he
    · obtain ⟨z', h1, h2, h3⟩ := h.all e he
      refine ⟨z', h1, h2, ?_⟩
      have : z' ≠ z := fun x => hn e he (by rw [h2, x])
      simp [updF, this, h3]
    · have : e = { key := (Value.int .i64 z), val := (Value.int .i64 y), born := clock } := by simpa using he
      subst this
      exact ⟨z, hw, rfl, by simp [updF]⟩
  · rw [List.map_append, List.nodup_append]
    refine ⟨h.nodup, by simp, fun a ha b hb => ?_⟩
    obtain ⟨e, he, rfl⟩ := List.mem_map.1 ha
    have : b = (Value.int .i64 z) := by simpa using hb
    subst this
    exact hn e he
  · by_cases e : z' = z
    · subst e; exact ⟨_, List.mem_append_right _ (List.mem_singleton.2 rfl), rfl⟩
    · obtain ⟨x, hx, hk⟩ := h.zero z' (by simpa [updF, e] using hz')
      exact ⟨x, List.mem_append_left _ hx, hk⟩
theorem Cm.set {f : Int → Int} {l : List MapEntry} {z y : Int} {j : Nat} {e0 : MapEntry} (h : Cm f l) (hw : (Lit.int .i64 z).wf = true) (hj : l[j]? = some e0) (hk : e0.key = (Value.int .i64 z)) {l' : List MapEntry}
    (hl : ∀ m, l'[m]? = if j = m then some { e0 with key := (Value.int .i64 z), val := (Value.int .i64 y) } else l[m]?) : Cm (updF f z y) l' := by
  have hkeys : l'.map MapEntry.key = l.map MapEntry.key := by
    apply List.ext_getElem?
    intro m
    rw [List.getElem?_map, List.getElem?_map, hl m]
    split
    · rename_i e; subst e; rw [hj]; simp [hk]
    · rfl
  refine ⟨fun e he => ?_, by rw [hkeys]; exact h.nodup, fun z' hz' => ?_⟩
  · obtain ⟨m, hm⟩ := List.mem_iff_getElem?.1 he
    rw [hl m] at hm
    split at hm
    · have : e = { e0 with key := (Value.int .i64 z), val := (Value.int .i64 y) } := by simpa using hm.symm
      subst this
      exact ⟨z, hw, rfl, by simp [updF]⟩
    · rename_i hne
      obtain ⟨z', h1, h2, h3⟩ := h.all e (List.mem_of_getElem? hm)
      refine ⟨z', h1, h2, ?_⟩
      have : z' ≠ z := fun x => by
        subst x
        have k1 : (l.map MapEntry.key)[j]? = some ((Value.int .i64 z')) := by rw [List.getElem?_map, hj]; simp [hk]
        have k2 : (l.map MapEntry.key)[m]? = some ((Value.int .i64 z')) := by rw [List.getElem?_map, hm]; simp [h2]
        have hlt : j < (l.map MapEntry.key).length := (List.getElem?_eq_some_iff.1 k1).1
        exact hne ((List.getElem?_inj hlt h.nodup).1 (k1.trans k2.symm))
      simp [updF, this, h3]
  · have hkk : (Value.int .i64 z') ∈ l'.map MapEntry.key := by
      rw [hkeys]
      by_cases e : z' = z
      · subst e; rw [← hk]; exact List.mem_map_of_mem (List.mem_of_getElem? hj)
      · obtain ⟨x, hx, hkx⟩ := h.zero z' (by simpa [updF, e] using hz')
        rw [← hkx]; exact List.mem_map_of_mem hx
    obtain ⟨x, hx, hkx⟩ := List.mem_map.1 hkk
    exact ⟨x, hx, hkx⟩
end Go.G


namespace Go.G
variable {P : Program} {W : World} {n : Nat} {D : List Deferred} {L : Tm} {M : List Res} {R : List Fact} {Q : Exit → Act → World → Prop} {o : Oper}
def slotF {α : Type} (v : Value) (sz : Nat) (enc : α → List Value) (y : α) : Fact := fun V => ∃ b off, v = pt b off ∧ rowD (some ⟨b, off, none⟩) sz enc [y] V
def isAt (v : Value) : Prop := ∃ b off, v = pt b off
abbrev Spc.el {α : Type} (sz : Nat) (enc : α → List Value) (y : α) : Spc := Spc.g isAt (fun _ => []) (fun v => [slotF v sz enc y])
end Go.G


namespace Foot4
open Go Go.G
@[reducible] def encB (x : Int) : List Value := [.int .i8 x]
def pick (rl : Nat) (bys : List Int) (h i : Nat) : Int := if 3 * h + i < bys.length then ((bys.getD (3 * h + i) 0).tmod (rl + 1) + rl + 1).tmod (rl + 1) - 1 else -1
def planTo (rl : Nat) (bys : List Int) (h : Nat) : Nat → T3
  | 0 => noneT
  | i + 1 => (planTo rl bys h i).put i (pick rl bys h i)
def planB (rl : Nat) (bys : List Int) (h : Nat) : T3 := planTo rl bys h 3
def listB (rl : Nat) (bys : List Int) (k : Nat) : List T3 := (List.range k).map (planB rl bys)
/-! ### the first one -/
/-! ### a plan as far as it goes -/
def ownT (p : T3) (i : Nat) : T3 := ⟨if 0 < i then p.a else -1, if 1 < i then p.b else -1, if 2 < i then p.c else -1⟩
/-! ### how many there are on each day -/
def bz (l : List T3) (h k : Nat) : Int → Int := fun d => if 0 ≤ d then befH l d h + cnt (l.getD h default) d k else 0
def I8s (bys : List Int) : Prop := ∀ x ∈ bys, -128 ≤ x ∧ x ≤ 127
end Foot4


namespace Go.Proofs.Ytienjlmnakbfmaa
open Go.G Foot4
set_option maxRecDepth 1000000
attribute [local irreducible] G.ParO G.Fin
variable (F : Work) (ro ho : Option Addr) (rc hc : Nat)
end Go.Proofs.Ytienjlmnakbfmaa


namespace Foot4
open Go Go.G
theorem bestG {α : Type} {bt : α → α → Bool} {z : α} {key : α → Int} (hbt : ∀ x y, bt x y = decide (key y < key x)) {l : List α} : ∀ k, 0 < k → k ≤ l.length →
    ∃ i, i < k ∧ l.getD i z = best1 bt z l k ∧ (∀ j, j < k → key (l.getD j z) ≤ key (best1 bt z l k)) ∧ (∀ j, j < i → key (l.getD j z) < key (best1 bt z l k))
  | 0, h, _ => by omega
  | k + 1, _, hl => by
    by_cases h0 : k = 0
    · subst h0
      rw [best1_yes (.inl rfl)]
      refine ⟨0, by omega, rfl, fun j hj => ?_, fun j hj => by omega⟩
      obtain rfl : j = 0 := by omega
      exact Int.le_refl _
    · obtain ⟨i, hi, he, ha, hb⟩ := bestG hbt (l := l) (z := z) k (by omega) (by omega)
      by_cases hs : key (best1 bt z l k) < key (l.getD k z)
      · rw [best1_yes (.inr (by rw [hbt]; exact decide_eq_true hs))]
        refine ⟨k, by omega, rfl, fun j hj => ?_, fun j hj => ?_⟩
        · by_cases e : j = k
          · subst e; exact Int.le_refl _
          · have := ha j (by omega); omega
        · have := ha j (by omega); omega
      · rw [best1_no h0 (by rw [hbt]; exact fun x => hs (of_decide_eq_true x))]
        refine ⟨i, by omega, he, fun j hj => ?_, hb⟩
        by_cases e : j = k
        · subst e; omega
        · exact ha j (by omega)
def wholeB' (p : T3) : Prop := 0 ≤ p.a ∧ 0 ≤ p.b ∧ 0 ≤ p.c
instance (p : T3) : Decidable (wholeB' p) := by unfold wholeB'; infer_instance
/-- Plans for the r heaps that are left are right, so many steps being on each day already. -/
def Right (F : Work) (men : Int) : Nat → List Int → List T3 → Prop
  | 0, _, Q => Q = []
  | r + 1, B, Q => ∃ p Q', Q = p :: Q' ∧ IsPlan F.rain.length p ∧ keptF selW F (F.heaps.length - (r + 1)) p ∧ (∀ j, j < 3 → 0 ≤ p.at j → B.getD (p.at j).toNat 0 < men) ∧ Right F men r (with_ B p) Q'
def total (F : Work) : Nat → List T3 → Int
  | 0, _ => 0
  | r + 1, Q => (if wholeB' (Q.headD default) then (F.heaps.getD (F.heaps.length - (r + 1)) default).sods else 0) + total F r Q.tail
def bl (F : Work) (men : Int) : Nat → List Int → List T3
  | 0, _ => []
  | r + 1, B => (bestW F men (r + 1) B).plan :: bl F men r (with_ B (bestW F men (r + 1) B).plan)
def lexL : List T3 → List T3 → Prop
  | a :: l, b :: q => lex a b ∨ a = b ∧ lexL l q
  | [], _ => True
  | _, [] => False
def leB (B B' : List Int) : Prop := ∀ d : Int, 0 ≤ d ∧ d ≤ 7 → B.getD d.toNat 0 ≤ B'.getD d.toNat 0
theorem plan_at7 {n : Nat} (hn : n ≤ 8) {p : T3} (h : IsPlan n p) {k : Nat} (hk : k < 3) : p.at k ≤ 7 := by have := h.1 k hk; omega
theorem with_at {n : Nat} (hn : n ≤ 8) {B : List Int} (hB : B.length = 8) {p : T3} (h : IsPlan n p) {d : Int} (hd : 0 ≤ d ∧ d ≤ 7) : (with_ B p).getD d.toNat 0 = B.getD d.toNat 0 + cnt p d 3 :=
  withTo_at hB hd (fun _ hk => plan_at7 hn h hk) 3 (Nat.le_refl _)
theorem leB_with {n : Nat} (hn : n ≤ 8) {B B' : List Int} (hB : B.length = 8) (hB' : B'.length = 8) {p : T3} (h : IsPlan n p) (hl : leB B B') : leB (with_ B p) (with_ B' p) := fun d hd => by
  rw [with_at hn hB h hd, with_at hn hB' h hd]
  have := hl d hd; omega
theorem leB_self {n : Nat} (hn : n ≤ 8) {B : List Int} (hB : B.length = 8) {p : T3} (h : IsPlan n p) : leB B (with_ B p) := fun d hd => by
  rw [with_at hn hB h hd]
  have := cnt_bd p d 3; omega
theorem Right.anti {F : Work} (hn : F.rain.length ≤ 8) {men : Int} : ∀ {r : Nat} {B B' : List Int} {Q : List T3}, B.length = 8 → B'.length = 8 → leB B B' → Right F men r B' Q → Right F men r B Q
  | 0, _, _, _, _, _, _, h => h
  | r + 1, B, B', Q, h1, h2, hl, ⟨p, Q', e, hp, hk, hf, hr⟩ => by
    refine ⟨p, Q', e, hp, hk, fun j hj h0 => ?_, Right.anti hn (by rw [with_len, h1]) (by rw [with_len, h2]) (leB_with hn h1 h2 hp hl) hr⟩
    have := hf j hj h0
    have := hl (p.at j) ⟨h0, plan_at7 hn hp hj⟩
    omega
theorem with_none {B : List Int} : with_ B noneT = B := by
  unfold with_
  simp only [withTo]
  rfl
theorem Right.len {F : Work} {men : Int} : ∀ {r : Nat} {B : List Int} {Q : List T3}, Right F men r B Q → Q.length = r
  | 0, _, _, h => by
    have h : _ = [] := h
    rw [h]; rfl
  | r + 1, _, _, ⟨p, Q', e, _, _, _, hr⟩ => by rw [e, List.length_cons, hr.len]
theorem none_lt {n : Nat} {p : T3} (h : IsPlan n p) (hne : p ≠ noneT) : lex noneT p := by
  have h1 := ord1.1 h.2.2.1
  have h2 := ord2.1 h.2.2.2
  have g0 : -1 ≤ p.a ∧ _ := h.1 0 (by omega)
  have g1 : -1 ≤ p.b ∧ _ := h.1 1 (by omega)
  have g2 : -1 ≤ p.c ∧ _ := h.1 2 (by omega)
  obtain ⟨a, b, c⟩ := p
  dsimp only at *
  show (-1 : Int) < a ∨ (-1 : Int) = a ∧ ((-1 : Int) < b ∨ (-1 : Int) = b ∧ (-1 : Int) < c)
  by_cases e : a = -1
  · have e2 : b = -1 := by omega
    have e3 : c = -1 := by omega
    subst e e2 e3
    exact absurd rfl hne
  · exact .inl (by omega)
theorem free_iff {men : Int} {B : List Int} {p : T3} (hw : wholeB' p) : freeB men B p = true ↔ ∀ j, j < 3 → 0 ≤ p.at j → B.getD (p.at j).toNat 0 < men := by
  unfold freeB
  simp only [List.any_cons, List.any_nil, Bool.or_false, Bool.not_eq_true', Bool.or_eq_false_iff, decide_eq_false_iff_not]
  constructor
  · rintro ⟨h0, h1, h2⟩ j hj _
    obtain rfl | rfl | rfl : j = 0 ∨ j = 1 ∨ j = 2 := by omega
    · show B.getD p.a.toNat 0 < men; omega
    · show B.getD p.b.toNat 0 < men; omega
    · show B.getD p.c.toNat 0 < men; omega
  · intro h
    have h0 : B.getD p.a.toNat 0 < men := h 0 (by omega) hw.1
    have h1 : B.getD p.b.toNat 0 < men := h 1 (by omega) hw.2.1
    have h2 : B.getD p.c.toNat 0 < men := h 2 (by omega) hw.2.2
    exact ⟨by omega, by omega, by omega⟩
end Foot4


namespace Foot4
open Go Go.G
abbrev wsF (F : Work) (men : Int) (r : Nat) (B : List Int) : List Way := waysW F men (F.heaps.length - (r + 1)) B (fun C => (bestW F men r C).sods) (sureF selW F (F.heaps.length - (r + 1)))
theorem ws_mem {F : Work} {men : Int} {r : Nat} {B : List Int} {w : Way} (h : w ∈ wsF F men r B) : (w = ⟨(bestW F men r B).sods, noneT⟩) ∨ ∃ p, w = ⟨(F.heaps.getD (F.heaps.length - (r + 1)) default).sods + (bestW F men r (with_ B p)).sods, p⟩ ∧ p ∈ sureF selW F (F.heaps.length - (r + 1)) ∧ freeB men B p = true := by
  rcases List.mem_cons.1 h with e | h
  · exact .inl e
  · obtain ⟨p, hp, e⟩ := List.mem_map.1 h
    have := List.mem_filter.1 hp
    exact .inr ⟨p, e.symm, this.1, this.2⟩
theorem none_kept (F : Work) (heap : Nat) : keptF selW F heap noneT := ⟨.inl (by decide), .inl (by decide), .inl (by decide)⟩
theorem bl_right {F : Work} (hg : GoodF F) {men : Int} : ∀ (r : Nat) (B : List Int), Right F men r B (bl F men r B) ∧ total F r (bl F men r B) = (bestW F men r B).sods
  | 0, _ => ⟨rfl, rfl⟩
  | r + 1, B => by
    have hm := wayL_mem (l := wsF F men r B) (by simp [wsF, waysW])
    have hb : bestW F men (r + 1) B = wayL (wsF F men r B) := rfl
    rw [← hb] at hm
    have h8 := hg.1
    show (∃ p Q', _ :: _ = p :: Q' ∧ _) ∧ (if wholeB' (bestW F men (r + 1) B).plan then _ else 0) + total F r (bl F men r (with_ B (bestW F men (r + 1) B).plan)) = _
    rcases ws_mem hm with e | ⟨p, e, hp, hf⟩
    · have ih := bl_right hg (men := men) r B
      rw [e]
      refine ⟨⟨_, _, rfl, none_plan _ (by omega), none_kept _ _, fun j hj h0 => ?_, ?_⟩, ?_⟩
      · obtain rfl | rfl | rfl : j = 0 ∨ j = 1 ∨ j = 2 := by omega
        all_goals (have h0 : (0 : Int) ≤ -1 := h0; omega)
      · show Right F men r (with_ B noneT) (bl F men r (with_ B noneT))
        rw [with_none]; exact ih.1
      · show (if wholeB' noneT then _ else 0) + total F r (bl F men r (with_ B noneT)) = (bestW F men r B).sods
        rw [if_neg (by decide), with_none, ih.2]; omega
    · have ih := bl_right hg (men := men) r (with_ B p)
      have hps := List.mem_filter.1 hp
      have hpl := whole_plan' hps.1
      rw [e]
      refine ⟨⟨_, _, rfl, hpl.1, by simpa [keptB] using hps.2, (free_iff hpl.2).1 hf, ih.1⟩, ?_⟩
      show (if wholeB' p then _ else 0) + total F r (bl F men r (with_ B p)) = _
      rw [if_pos (show wholeB' p from hpl.2), ih.2]
theorem best_opt {F : Work} (hg : GoodF F) {men : Int} : ∀ (r : Nat) (B : List Int) (Q : List T3), B.length = 8 → Right F men r B Q → total F r Q ≤ (bestW F men r B).sods ∧ (total F r Q = (bestW F men r B).sods → lexL (bl F men r B) Q)
  | 0, _, _, _, h => by
    have h : _ = [] := h
    subst h
    exact ⟨Int.le_refl _, fun _ => trivial⟩
  | r + 1, B, _, hB, ⟨p, Q, rfl, hp, hk, hf, hr⟩ => by
    have h8 := hg.1
    have hn : F.rain.length ≤ 8 := by omega
    have hpos : 0 < (wsF F men r B).length := by simp [wsF, waysW]
    obtain ⟨i, hi, he, ha, hb⟩ := bestG (bt := more) (z := default) (key := Way.sods) (fun _ _ => rfl) (l := wsF F men r B) _ hpos (Nat.le_refl _)
    have hw : best1 more default (wsF F men r B) (wsF F men r B).length = bestW F men (r + 1) B := rfl
    rw [hw] at he ha hb
    have hget : ∀ j, j < (wsF F men r B).length → (wsF F men r B)[j]? = some ((wsF F men r B).getD j default) := fun j hj => by simp [hj]
    have h0 : (wsF F men r B).getD 0 default = ⟨(bestW F men r B).sods, noneT⟩ := rfl
    by_cases hwp : wholeB' p
    · -- a whole plan
      have ih := best_opt hg (men := men) r (with_ B p) Q (by rw [with_len, hB]) hr
      have hps : p ∈ sureF selW F (F.heaps.length - (r + 1)) := sure_of hp hwp hk
      have hfr := (free_iff hwp).2 hf
      have htot : total F (r + 1) (p :: Q) = (F.heaps.getD (F.heaps.length - (r + 1)) default).sods + total F r Q := by
        show (if wholeB' p then _ else 0) + total F r Q = _
        rw [if_pos hwp]
      have hmw : (⟨(F.heaps.getD (F.heaps.length - (r + 1)) default).sods + (bestW F men r (with_ B p)).sods, p⟩ : Way) ∈ wsF F men r B :=
        List.mem_cons_of_mem _ (List.mem_map.2 ⟨p, List.mem_filter.2 ⟨hps, hfr⟩, rfl⟩)
      obtain ⟨j, hj⟩ := List.mem_iff_getElem?.1 hmw
      have hjl := (List.getElem?_eq_some_iff.1 hj).1
      have hje := Option.some.inj ((hget j hjl).symm.trans hj)
      have h1 := ha j hjl
      rw [hje] at h1
      have h1 : (F.heaps.getD (F.heaps.length - (r + 1)) default).sods + (bestW F men r (with_ B p)).sods ≤ (bestW F men (r + 1) B).sods := h1
      refine ⟨by rw [htot]; omega, fun heq => ?_⟩
      rw [htot] at heq
      have hsame : (F.heaps.getD (F.heaps.length - (r + 1)) default).sods + (bestW F men r (with_ B p)).sods = (bestW F men (r + 1) B).sods := by omega
      have hij : i ≤ j := by
        rcases Nat.lt_or_ge j i with h | h
        · have := hb j h
          rw [hje] at this
          have : (F.heaps.getD (F.heaps.length - (r + 1)) default).sods + (bestW F men r (with_ B p)).sods < (bestW F men (r + 1) B).sods := this
          omega
        · exact h
      show lex _ p ∨ _ = p ∧ _
      by_cases e : i = j
      · right
        subst e
        have e2 : (bestW F men (r + 1) B).plan = p := by rw [← he, hje]
        rw [e2]
        exact ⟨rfl, ih.2 (by omega)⟩
      · left
        -- the ways' plans stand in order
        have hso : (wsF F men r B).Pairwise (fun v w => lex v.plan w.plan ∨ True ∧ v.plan = noneT ∧ wholeB' w.plan) := by
          show List.Pairwise _ (_ :: _)
          rw [List.pairwise_cons]
          refine ⟨fun w hwm => ?_, ?_⟩
          · obtain ⟨q, hq, rfl⟩ := List.mem_map.1 hwm
            exact .inr ⟨trivial, rfl, (whole_plan' (List.mem_filter.1 (List.mem_filter.1 hq).1).1).2⟩
          · rw [List.pairwise_map]
            exact (((whole_sorted _).filter _).filter _).imp fun h => .inl h
        obtain ⟨l1, g1⟩ := List.getElem?_eq_some_iff.1 (hget i hi)
        obtain ⟨l2, g2⟩ := List.getElem?_eq_some_iff.1 hj
        have := List.pairwise_iff_getElem.1 hso i j l1 l2 (by omega)
        rw [g1, g2, he] at this
        rcases this with h | ⟨_, h2, h3⟩
        · exact h
        · rw [h2]
          refine none_lt hp (fun e => ?_)
          subst e
          have h3 : wholeB' noneT := h3
          exact absurd h3 (by decide)
    · -- no whole plan: the heap is not clamped
      have htot : total F (r + 1) (p :: Q) = total F r Q := by
        show (if wholeB' p then _ else 0) + total F r Q = _
        rw [if_neg hwp]; omega
      have hr' : Right F men r B Q := Right.anti hn hB (by rw [with_len, hB]) (leB_self hn hB hp) hr
      have ih := best_opt hg (men := men) r B Q hB hr'
      have h1 := ha 0 hpos
      rw [h0] at h1
      have h1 : (bestW F men r B).sods ≤ (bestW F men (r + 1) B).sods := h1
      refine ⟨by rw [htot]; omega, fun heq => ?_⟩
      rw [htot] at heq
      have hi0 : i = 0 := by
        rcases Nat.eq_zero_or_pos i with h | h
        · exact h
        · have := hb 0 h
          rw [h0] at this
          have : (bestW F men r B).sods < (bestW F men (r + 1) B).sods := this
          omega
      subst hi0
      rw [h0] at he
      have e2 : (bestW F men (r + 1) B).plan = noneT := by rw [← he]
      show lex _ p ∨ _ = p ∧ lexL (bl F men r (with_ B (bestW F men (r + 1) B).plan)) Q
      rw [e2]
      by_cases hpn : p = noneT
      · right
        refine ⟨hpn.symm, ?_⟩
        rw [with_none]
        exact ih.2 (by omega)
      · exact .inl (none_lt hp hpn)
end Foot4


namespace Foot4
open Go Go.G
theorem stW_bl (F : Work) (men : Int) : ∀ k, k ≤ F.heaps.length → (stW F men k).2 ++ bl F men (F.heaps.length - k) (stW F men k).1 = bl F men F.heaps.length zeros
  | 0, _ => by simp [stW]
  | k + 1, hk => by
    have ih := stW_bl F men k (by omega)
    rw [← ih]
    obtain ⟨r, hr⟩ : ∃ r, F.heaps.length - k = r + 1 := ⟨F.heaps.length - (k + 1), by omega⟩
    have hr' : F.heaps.length - (k + 1) = r := by omega
    rw [hr', hr]
    simp only [stW, bl, hr, List.append_assoc, List.singleton_append]
theorem stW_all (F : Work) (men : Int) : (stW F men F.heaps.length).2 = bl F men F.heaps.length zeros := by
  have := stW_bl F men F.heaps.length (Nat.le_refl _)
  simpa [bl] using this
theorem right_of {F : Work} {men : Int} {l : List T3} (hl : l.length = F.heaps.length)
    (h : ∀ h, h < F.heaps.length → IsPlan F.rain.length (l.getD h default) ∧ keptF selW F h (l.getD h default) ∧ ∀ j, j < 3 → 0 ≤ (l.getD h default).at j → (busyTo l h).getD ((l.getD h default).at j).toNat 0 < men) :
    ∀ r, r ≤ F.heaps.length → Right F men r (busyTo l (F.heaps.length - r)) (l.drop (F.heaps.length - r))
  | 0, _ => by
    show l.drop (F.heaps.length - 0) = []
    rw [Nat.sub_zero, ← hl]; simp
  | r + 1, hr => by
    have ih := right_of hl h r (by omega)
    have hk := h (F.heaps.length - (r + 1)) (by omega)
    have hlt : F.heaps.length - (r + 1) < l.length := by omega
    have e : l.drop (F.heaps.length - (r + 1)) = l.getD (F.heaps.length - (r + 1)) default :: l.drop (F.heaps.length - r) := by
      rw [List.drop_eq_getElem_cons hlt, show F.heaps.length - (r + 1) + 1 = F.heaps.length - r from by omega]
      simp [hlt]
    refine ⟨_, _, e, hk.1, hk.2.1, hk.2.2, ?_⟩
    rw [show F.heaps.length - r = (F.heaps.length - (r + 1)) + 1 from by omega] at ih
    have e2 : F.heaps.length - r = (F.heaps.length - (r + 1)) + 1 := by omega
    rw [e2]
    exact ih
theorem of_right {F : Work} {men : Int} {l : List T3} (hl : l.length = F.heaps.length) : ∀ r, r ≤ F.heaps.length → Right F men r (busyTo l (F.heaps.length - r)) (l.drop (F.heaps.length - r)) →
    ∀ h, F.heaps.length - r ≤ h → h < F.heaps.length → IsPlan F.rain.length (l.getD h default) ∧ keptF selW F h (l.getD h default) ∧ ∀ j, j < 3 → 0 ≤ (l.getD h default).at j → (busyTo l h).getD ((l.getD h default).at j).toNat 0 < men
  | 0, _, _, h, h1, h2 => by omega
  | r + 1, hr, hR, h, h1, h2 => by
    have hlt : F.heaps.length - (r + 1) < l.length := by omega
    have e : l.drop (F.heaps.length - (r + 1)) = l.getD (F.heaps.length - (r + 1)) default :: l.drop (F.heaps.length - r) := by
      rw [List.drop_eq_getElem_cons hlt, show F.heaps.length - (r + 1) + 1 = F.heaps.length - r from by omega]
      simp [hlt]
    obtain ⟨p, Q, e1, hp, hk, hf, hr'⟩ := hR
    rw [e] at e1
    obtain ⟨rfl, rfl⟩ := List.cons.inj e1
    by_cases he : h = F.heaps.length - (r + 1)
    · subst he; exact ⟨hp, hk, hf⟩
    · refine of_right hl r (by omega) ?_ h (by omega) h2
      have e2 : F.heaps.length - r = (F.heaps.length - (r + 1)) + 1 := by omega
      rw [e2] at hr' ⊢
      exact hr'
end Foot4


namespace Foot4
open Go Go.G
theorem total_to {F : Work} {l : List T3} (hl : l.length = F.heaps.length) : ∀ r, r ≤ F.heaps.length → sodsTo F l (F.heaps.length - r) + total F r (l.drop (F.heaps.length - r)) = sodsTo F l F.heaps.length
  | 0, _ => by simp [total]
  | r + 1, hr => by
    have ih := total_to hl r (by omega)
    have hlt : F.heaps.length - (r + 1) < l.length := by omega
    have e : l.drop (F.heaps.length - (r + 1)) = l.getD (F.heaps.length - (r + 1)) default :: l.drop (F.heaps.length - r) := by
      rw [List.drop_eq_getElem_cons hlt, show F.heaps.length - (r + 1) + 1 = F.heaps.length - r from by omega]
      simp [hlt]
    rw [e]
    show _ + ((if wholeB' (l.getD (F.heaps.length - (r + 1)) default) then _ else 0) + total F r (l.drop (F.heaps.length - r))) = _
    rw [← ih, show F.heaps.length - r = (F.heaps.length - (r + 1)) + 1 from by omega]
    have e2 : sodsTo F l (F.heaps.length - (r + 1) + 1) = sodsTo F l (F.heaps.length - (r + 1)) + (if wholeB' (l.getD (F.heaps.length - (r + 1)) default) then (F.heaps.getD (F.heaps.length - (r + 1)) default).sods else 0) := rfl
    rw [e2]
    omega
theorem total_sods {F : Work} {l : List T3} (hl : l.length = F.heaps.length) : total F F.heaps.length l = sodsR F l := by
  have := total_to hl F.heaps.length (Nat.le_refl _)
  rw [Nat.sub_self] at this
  unfold sodsR
  rw [hl]
  simpa [sodsTo] using this
end Foot4


namespace Foot4
open Go Go.G
abbrev bestL (F : Work) : List T3 := (stW F F.men F.heaps.length).2
theorem bestL_len (F : Work) : (bestL F).length = F.heaps.length := (stW_len F F.men F.heaps.length).2
end Foot4


namespace Foot4
open Go Go.G
def sumSure (F : Work) : Nat → Int
  | 0 => 0
  | k + 1 => sumSure F k + (if sureQ selW F k = true then (F.heaps.getD k default).sods else 0)
def nB (bys : List Int) (h : Nat) : Nat := if 0 < bys.length then (bys.getD (h % bys.length) 0).toNat else 0
def ownB (rl : Nat) (bys : List Int) (k : Nat) : List T3 := (List.range k).map fun h => madeP rl (nB bys h)
end Foot4


namespace Foot4
open Go Go.G
def RightL (F : Work) (men : Int) (l : List T3) : Prop := l.length = F.heaps.length ∧ ∀ h, h < F.heaps.length → IsPlan F.rain.length (l.getD h default) ∧ keptF selW F h (l.getD h default) ∧ ∀ j, j < 3 → 0 ≤ (l.getD h default).at j → (busyTo l h).getD ((l.getD h default).at j).toNat 0 < men
theorem bestS_ge {F : Work} (hg : GoodF F) {men : Int} {l : List T3} (h : RightL F men l) : sodsR F l ≤ bestS F men := by
  have h1 := right_of (men := men) h.1 h.2 F.heaps.length (Nat.le_refl _)
  rw [Nat.sub_self] at h1
  have h2 := best_opt hg (men := men) F.heaps.length zeros l rfl h1
  rw [total_sods h.1] at h2
  exact h2.1
theorem bestS_att {F : Work} (hg : GoodF F) (men : Int) : ∃ l, RightL F men l ∧ sodsR F l = bestS F men := by
  have h1 := bl_right hg (men := men) F.heaps.length zeros
  rw [← stW_all F men] at h1
  have hlen := (stW_len F men F.heaps.length).2
  refine ⟨_, ⟨hlen, fun h hh => of_right hlen F.heaps.length (Nat.le_refl _) (by rw [Nat.sub_self]; exact h1.1) h (by omega) hh⟩, ?_⟩
  rw [← total_sods hlen]
  exact h1.2
/-- The work with so many men. -/
abbrev setMen (F : Work) (n : Int) : Work := ⟨F.rain, n, F.lim, F.dr, F.heaps⟩
end Foot4


namespace Foot4
open Go Go.G
structure Ease (F F' : Work) : Prop where
  good : GoodF F'
  men : F'.men = F.men
  rl : F'.rain.length = F.rain.length
  hl : F'.heaps.length = F.heaps.length
  rain : ∀ k, (F'.rain.getD k default).hi ≤ (F.rain.getD k default).hi
  heap : ∀ k, (F'.heaps.getD k default).hi ≤ (F.heaps.getD k default).hi
  sods : ∀ k, (F'.heaps.getD k default).sods = (F.heaps.getD k default).sods
  lim : ∀ k, F.lim.at k ≤ F'.lim.at k
  dr : ∀ k, F.dr.at k ≤ F'.dr.at k
theorem Ease.wet {F F' : Work} (h : Ease F F') (heap : Nat) (p : T3) : ∀ d, worstTo F' heap p d ≤ worstTo F heap p d
  | 0 => h.heap heap
  | d + 1 => by
    have ih := h.wet heap p d
    have h1 := h.rain d
    have h2 := h.dr (Done p d).toNat
    simp only [worstTo]
    split
    · unfold step; omega
    · exact ih
theorem Ease.kept {F F' : Work} (h : Ease F F') {heap : Nat} {p : T3} (hp : IsPlan F.rain.length p) (hk : keptF selW F heap p) : keptF selW F' heap p := by
  have hp' : IsPlan F'.rain.length p := by rw [h.rl]; exact hp
  have go : ∀ k, canF selW F heap p k → canF selW F' heap p k := fun k hc => by
    rw [(can_ok hp k).1] at hc
    rw [(can_ok hp' k).1]
    rcases hc with hc | hc
    · exact .inl hc
    · right
      have := h.wet heap p (p.at k).toNat
      have := h.lim k
      omega
  exact ⟨go 0 hk.1, go 1 hk.2.1, go 2 hk.2.2⟩
theorem Ease.sure {F F' : Work} (h : Ease F F') {heap : Nat} {p : T3} (hs : p ∈ sureF selW F heap) : p ∈ sureF selW F' heap := by
  have h1 := List.mem_filter.1 hs
  have hw := whole_plan' h1.1
  refine List.mem_filter.2 ⟨by rw [h.rl]; exact h1.1, ?_⟩
  have := of_decide_eq_true h1.2
  exact decide_eq_true (h.kept hw.1 this)
theorem Ease.sureq {F F' : Work} (h : Ease F F') {heap : Nat} (hq : sureQ selW F heap = true) : sureQ selW F' heap = true :=
  sureQ_of (h.sure (soonL_spec hq).1)
theorem Ease.soon {F F' : Work} (h : Ease F F') {heap : Nat} (hq : sureQ selW F heap = true) : (soonL (sureF selW F' heap)).c ≤ (soonL (sureF selW F heap)).c := by
  have := (soonL_spec (h.sureq hq)).2 _ (h.sure (soonL_spec hq).1)
  omega
theorem Ease.sodsTo {F F' : Work} (h : Ease F F') (l : List T3) : ∀ k, sodsTo F' l k = sodsTo F l k
  | 0 => rfl
  | k + 1 => by simp only [Foot4.sodsTo, h.sodsTo l k, h.sods k]
theorem Ease.best {F F' : Work} (hg : GoodF F) (h : Ease F F') : bestS F F.men ≤ bestS F' F'.men := by
  obtain ⟨l, hl, he⟩ := bestS_att hg F.men
  rw [← he, h.men]
  have : sodsR F l = sodsR F' l := (h.sodsTo l _).symm
  rw [this]
  exact bestS_ge h.good ⟨by rw [hl.1, h.hl], fun k hk => by
    rw [h.hl] at hk
    obtain ⟨h1, h2, h3⟩ := hl.2 k hk
    exact ⟨by rw [h.rl]; exact h1, h.kept h1 h2, h3⟩⟩
theorem Ease.can {F F' : Work} (h : Ease F F') {heap : Nat} {p : T3} (hp : IsPlan F.rain.length p) (hk : keptP F heap p = 2) : keptP F' heap p = 2 := kept_2.2 (h.kept hp (kept_2.1 hk))
/-! ### heaps numbered otherwise -/
abbrev turned (F : Work) : Work := ⟨F.rain, F.men, F.lim, F.dr, F.heaps.reverse⟩
theorem rev_at {α : Type} [Inhabited α] {l : List α} {k : Nat} (h : k < l.length) : l.reverse.getD (l.length - 1 - k) default = l.getD k default := by
  simp only [List.getD_eq_getElem?_getD]
  rw [List.getElem?_reverse (by omega)]
  congr 2
  omega
theorem turned_good {F : Work} (hg : GoodF F) : GoodF (turned F) := by
  obtain ⟨h1, h2, h3, h4, h5, h6⟩ := hg
  refine ⟨h1, h2, by show ((F.heaps.reverse).length : Int) ≤ 3; rw [List.length_reverse]; exact h3, h4, h5, fun k hk => ?_⟩
  have hk : k < F.heaps.reverse.length := hk
  rw [List.length_reverse] at hk
  show (0 ≤ (F.heaps.reverse.getD k default).lo ∧ _) ∧ _
  have e : F.heaps.reverse.getD k default = F.heaps.getD (F.heaps.length - 1 - k) default := by
    have := rev_at (l := F.heaps) (k := F.heaps.length - 1 - k) (by omega)
    rw [← this]; congr 1; omega
  rw [e]
  exact h6 _ (by omega)
theorem turned_wetS {F : Work} {heap : Nat} (h : heap < F.heaps.length) (p : T3) : ∀ d, wetS selW (turned F) (F.heaps.length - 1 - heap) p d = wetS selW F heap p d
  | 0 => by
    show ((F.heaps.reverse.getD (F.heaps.length - 1 - heap) default).hi, 0) = ((F.heaps.getD heap default).hi, 0)
    rw [rev_at h]
  | d + 1 => by
    have ih := turned_wetS h p d
    simp only [wetS, ih]
theorem turned_kept {F : Work} {heap : Nat} (h : heap < F.heaps.length) (p : T3) : keptF selW (turned F) (F.heaps.length - 1 - heap) p ↔ keptF selW F heap p := by
  have go : ∀ k, canF selW (turned F) (F.heaps.length - 1 - heap) p k ↔ canF selW F heap p k := fun k => by
    unfold canF wetF
    rw [turned_wetS h]
  unfold keptF
  rw [go 0, go 1, go 2]
theorem turned_sure {F : Work} {heap : Nat} (h : heap < F.heaps.length) : sureF selW (turned F) (F.heaps.length - 1 - heap) = sureF selW F heap := by
  show (whole F.rain.length).filter _ = (whole F.rain.length).filter _
  congr 1
  funext p
  unfold keptB
  exact decide_eq_decide.2 (turned_kept h p)
theorem turned_soon {F : Work} (hg : GoodF F) {heap : Nat} (h : heap < F.heaps.length) : soonP (turned F) ((F.heaps.length - 1 - heap : Nat) : Int) = soonP F heap := by
  have hg' := turned_good hg
  have hl : F.heaps.length - 1 - heap < (turned F).heaps.length := by show _ < F.heaps.reverse.length; rw [List.length_reverse]; omega
  have hs : sureQ selW (turned F) (F.heaps.length - 1 - heap) = sureQ selW F heap := by unfold sureQ; rw [turned_sure h]
  rcases Bool.eq_false_or_eq_true (sureQ selW F heap) with hq | hq
  · rw [soonP_yes hg h hq, soonP_yes hg' hl (by rw [hs]; exact hq), turned_sure h]
  · rw [soonP_no hg h hq, soonP_no hg' hl (by rw [hs]; exact hq)]
/-- How many steps there are on a day, of so many first plans. -/
theorem busy_bef {n : Nat} (hn : n ≤ 8) {l : List T3} {d : Int} (hd : 0 ≤ d ∧ d ≤ 7) : ∀ h, (∀ k, k < h → IsPlan n (l.getD k default)) → (busyTo l h).getD d.toNat 0 = befH l d h
  | 0, _ => by
    show (([0, 0, 0, 0, 0, 0, 0, 0] : List Int)).getD d.toNat 0 = 0
    obtain ⟨m, rfl⟩ : ∃ m : Nat, d = m := ⟨d.toNat, by omega⟩
    have : m < 8 := by omega
    rw [Int.toNat_natCast]
    match m with
    | 0 | 1 | 2 | 3 | 4 | 5 | 6 | 7 => rfl
    | m + 8 => omega
  | h + 1, hp => by
    have ih := busy_bef hn hd h (fun k hk => hp k (by omega))
    show (with_ (busyTo l h) (l.getD h default)).getD d.toNat 0 = befH l d h + cnt (l.getD h default) d 3
    rw [with_at hn (busyTo_len l h) (hp h (by omega)) hd, ih]
theorem cnt_one {n : Nat} {p : T3} (h : IsPlan n p) {d : Int} (hd : 0 ≤ d) : cnt p d 3 ≤ 1 ∧ (cnt p d 3 = 1 ↔ ∃ j, j < 3 ∧ p.at j = d) := by
  have h1 := ord1.1 h.2.2.1
  have h2 := ord2.1 h.2.2.2
  have e : cnt p d 3 = (if p.a = d then 1 else 0) + (if p.b = d then 1 else 0) + (if p.c = d then 1 else 0) := by
    show 0 + (if p.at 0 = d then 1 else 0) + (if p.at 1 = d then 1 else 0) + (if p.at 2 = d then 1 else 0) = _
    show 0 + (if p.a = d then (1 : Int) else 0) + (if p.b = d then 1 else 0) + (if p.c = d then 1 else 0) = _
    omega
  have e2 : (∃ j, j < 3 ∧ p.at j = d) ↔ p.a = d ∨ p.b = d ∨ p.c = d := by
    constructor
    · rintro ⟨j, hj, h⟩
      obtain rfl | rfl | rfl : j = 0 ∨ j = 1 ∨ j = 2 := by omega
      · exact .inl h
      · exact .inr (.inl h)
      · exact .inr (.inr h)
    · rintro (h | h | h)
      · exact ⟨0, by omega, h⟩
      · exact ⟨1, by omega, h⟩
      · exact ⟨2, by omega, h⟩
  rw [e2]
  clear e2
  have x1 : p.a = d ∨ ¬ p.a = d := Classical.em _
  have x2 : p.b = d ∨ ¬ p.b = d := Classical.em _
  have x3 : p.c = d ∨ ¬ p.c = d := Classical.em _
  rcases x1 with x1 | x1 <;> rcases x2 with x2 | x2 <;> rcases x3 with x3 | x3 <;> (first | rw [if_pos x1] at e | rw [if_neg x1] at e) <;> (first | rw [if_pos x2] at e | rw [if_neg x2] at e) <;> (first | rw [if_pos x3] at e | rw [if_neg x3] at e) <;> omega
/-- Right, said without an order of heaps: on no day are there more steps than men. -/
def Even (F : Work) (men : Int) (l : List T3) : Prop := l.length = F.heaps.length ∧ (∀ h, h < F.heaps.length → IsPlan F.rain.length (l.getD h default) ∧ keptF selW F h (l.getD h default)) ∧ ∀ d : Int, 0 ≤ d → d ≤ 7 → befH l d F.heaps.length ≤ max 0 men
theorem bef_up {l : List T3} {d : Int} {h k : Nat} (hk : h ≤ k) : befH l d h ≤ befH l d k := by
  obtain ⟨m, rfl⟩ := Nat.exists_eq_add_of_le hk
  induction m with
  | zero => exact Int.le_refl _
  | succ m ih =>
    have := ih (by omega)
    have := cnt_bd (l.getD (h + m) default) d 3
    show _ ≤ befH l d (h + m) + cnt (l.getD (h + m) default) d 3
    omega
theorem even_iff {F : Work} (hg : GoodF F) {men : Int} {l : List T3} : RightL F men l ↔ Even F men l := by
  have hn : F.rain.length ≤ 8 := by have := hg.1; omega
  constructor
  · rintro ⟨hl, h⟩
    refine ⟨hl, fun k hk => ⟨(h k hk).1, (h k hk).2.1⟩, fun d h0 h7 => ?_⟩
    have go : ∀ k, k ≤ F.heaps.length → befH l d k ≤ max 0 men := by
      intro k
      induction k with
      | zero => intro _; simp only [befH]; omega
      | succ k ih =>
        intro hk
        have ih := ih (by omega)
        obtain ⟨hp, _, hf⟩ := h k (by omega)
        have hc := cnt_one hp h0
        have hb := cnt_bd (l.getD k default) d 3
        show befH l d k + cnt (l.getD k default) d 3 ≤ _
        by_cases h1 : cnt (l.getD k default) d 3 = 1
        · obtain ⟨j, hj, e⟩ := hc.2.1 h1
          have := hf j hj (by omega)
          rw [e, busy_bef hn ⟨h0, h7⟩ k (fun i hi => (h i (by omega)).1)] at this
          omega
        · omega
    exact go _ (Nat.le_refl _)
  · rintro ⟨hl, h, hb⟩
    refine ⟨hl, fun k hk => ⟨(h k hk).1, (h k hk).2, fun j hj h0 => ?_⟩⟩
    have h7 := plan_at7 hn (h k hk).1 hj
    rw [busy_bef hn ⟨h0, h7⟩ k (fun i hi => (h i (by omega)).1)]
    have h1 := hb _ h0 h7
    have h2 := bef_up (l := l) (d := (l.getD k default).at j) (show k + 1 ≤ F.heaps.length from hk)
    have h3 : cnt (l.getD k default) ((l.getD k default).at j) 3 = 1 := (cnt_one (h k hk).1 h0).2.2 ⟨j, hj, rfl⟩
    have h4 := befH_bd l ((l.getD k default).at j) k
    have h2 : befH l ((l.getD k default).at j) k + cnt (l.getD k default) ((l.getD k default).at j) 3 ≤ _ := h2
    omega
/-- A sum over all heaps, and in the other order. -/
def sumF (f : Nat → Int) : Nat → Int
  | 0 => 0
  | k + 1 => sumF f k + f k
theorem sumF_congr {f g : Nat → Int} : ∀ n, (∀ k, k < n → f k = g k) → sumF f n = sumF g n
  | 0, _ => rfl
  | n + 1, h => by simp only [sumF, sumF_congr n (fun k hk => h k (by omega)), h n (by omega)]
theorem sumF_head (f : Nat → Int) : ∀ n, sumF f (n + 1) = f 0 + sumF (fun k => f (k + 1)) n
  | 0 => by simp [sumF]
  | n + 1 => by
    have ih := sumF_head f n
    show sumF f (n + 1) + f (n + 1) = f 0 + (sumF (fun k => f (k + 1)) n + f (n + 1))
    omega
theorem sumF_rev (f : Nat → Int) : ∀ n, sumF (fun k => f (n - 1 - k)) n = sumF f n
  | 0 => rfl
  | n + 1 => by
    rw [sumF_head]
    have ih := sumF_rev f n
    have e : sumF (fun k => f (n + 1 - 1 - (k + 1))) n = sumF (fun k => f (n - 1 - k)) n := sumF_congr n (fun k hk => by congr 1; omega)
    show f (n + 1 - 1 - 0) + sumF (fun k => f (n + 1 - 1 - (k + 1))) n = _
    rw [e, ih]
    show f n + sumF f n = sumF f n + f n
    omega
theorem bef_sum (l : List T3) (d : Int) : ∀ n, befH l d n = sumF (fun k => cnt (l.getD k default) d 3) n
  | 0 => rfl
  | n + 1 => by simp only [befH, sumF, bef_sum l d n]
theorem sods_sum (F : Work) (l : List T3) : ∀ n, Foot4.sodsTo F l n = sumF (fun k => if Whole (l.getD k default) then (F.heaps.getD k default).sods else 0) n
  | 0 => rfl
  | n + 1 => by simp only [Foot4.sodsTo, sumF, sods_sum F l n]
theorem turned_even {F : Work} {men : Int} {l : List T3} (h : Even F men l) : Even (turned F) men l.reverse ∧ sodsR (turned F) l.reverse = sodsR F l := by
  obtain ⟨hl, hk, hb⟩ := h
  have hlr : l.reverse.length = F.heaps.length := by rw [List.length_reverse, hl]
  have hzl : (turned F).heaps.length = F.heaps.length := List.length_reverse
  have at_ : ∀ k, k < F.heaps.length → l.reverse.getD k default = l.getD (F.heaps.length - 1 - k) default := fun k hk => by
    have := rev_at (l := l) (k := l.length - 1 - k) (by omega)
    rw [hl] at this
    rw [← this]; congr 1; omega
  refine ⟨⟨by rw [hlr, hzl], fun k hk' => ?_, fun d h0 h7 => ?_⟩, ?_⟩
  · rw [hzl] at hk'
    rw [at_ k hk']
    have := hk (F.heaps.length - 1 - k) (by omega)
    refine ⟨this.1, ?_⟩
    have e := (turned_kept (F := F) (heap := F.heaps.length - 1 - k) (by omega) (l.getD (F.heaps.length - 1 - k) default)).2 this.2
    rw [show F.heaps.length - 1 - (F.heaps.length - 1 - k) = k from by omega] at e
    exact e
  · rw [hzl, bef_sum]
    have := hb d h0 h7
    rw [bef_sum, ← sumF_rev] at this
    rw [sumF_congr F.heaps.length (g := fun k => cnt (l.getD (F.heaps.length - 1 - k) default) d 3) (fun k hk' => by rw [at_ k hk'])]
    exact this
  · unfold sodsR
    rw [hlr, hl, sods_sum, sods_sum, ← sumF_rev (fun k => if Whole (l.getD k default) then (F.heaps.getD k default).sods else 0)]
    refine sumF_congr _ (fun k hk' => ?_)
    have e := rev_at (l := F.heaps) (k := F.heaps.length - 1 - k) (by omega)
    rw [show F.heaps.length - 1 - (F.heaps.length - 1 - k) = k from by omega] at e
    rw [at_ k hk']
    show (if _ then (F.heaps.reverse.getD k default).sods else 0) = _
    rw [e]
theorem turned_best {F : Work} (hg : GoodF F) : bestS (turned F) F.men = bestS F F.men := by
  have hg' := turned_good hg
  apply Int.le_antisymm
  · obtain ⟨l, hl, he⟩ := bestS_att hg' F.men
    have h1 := turned_even ((even_iff hg').1 hl)
    have e : turned (turned F) = F := by simp [turned]
    rw [e] at h1
    rw [← he, ← h1.2]
    exact bestS_ge hg ((even_iff hg).2 h1.1)
  · obtain ⟨l, hl, he⟩ := bestS_att hg F.men
    have h1 := turned_even ((even_iff hg).1 hl)
    rw [← he, ← h1.2]
    exact bestS_ge hg' ((even_iff hg').2 h1.1)
end Foot4


namespace Foot4
open Go Go.G
end Foot4


namespace Go.Proofs.Ytienjlmnakbfmaa
open Go.G Foot4
set_option maxRecDepth 1000000
attribute [local irreducible] G.ParO G.Fin
variable (F : Work) (ro ho : Option Addr) (rc hc : Nat)
theorem EBest_s (hg : GoodF F) : FnS Try.prog 26 [valF F ro rc ho hc] [] [rowD ro 2 encS F.rain, rowD ho 3 encH F.heaps] (fun e M' R' => ∃ v, e = .returned (.tuple #[i64 (bestS F F.men), v, i64 0]) ∧ M' = [ownL v 27 3 encT (bestL F)] ∧ R' = []) := by
  have h := Best_s F ro ho rc hc (by have := hg.1; omega) (by have := hg.2.2.1; omega)
  rw [bestP_ok hg] at h; exact h
end Go.Proofs.Ytienjlmnakbfmaa


namespace Foot4
open Go Go.G
/-- The sods with one man less, as the loop keeps them. -/
def lastS (F : Work) : Nat → Int
  | 0 => 0
  | n + 1 => bestS F n
end Foot4


namespace Go.Proofs.Ytienjlmnakbfmaa
open Go.G Foot4
set_option maxRecDepth 1000000
attribute [local irreducible] G.ParO G.Fin
variable (F : Work) (ro ho : Option Addr) (rc hc : Nat)
end Go.Proofs.Ytienjlmnakbfmaa


set_option linter.unusedVariables false
set_option linter.unusedSimpArgs false
namespace Go.G
variable {P : Program} {W : World} {n : Nat} {D : List Deferred} {L : Tm} {M : List Res} {R : List Fact} {Q : Exit → Act → World → Prop} {o : Oper}
/-- An owned slice, or an empty one without room at any place. -/
def ownZ {α : Type} (v : Value) (T : TypeId) (sz : Nat) (enc : α → List Value) (xs : List α) : Res := fun s => ((∃ oa, v = .slice oa 0 0) ∧ xs = [] ∧ s = []) ∨ ownL v T sz enc xs s
theorem flat_len {α : Type} {enc : α → List Value} {sz : Nat} (henc : ∀ x, (enc x).length = sz) : ∀ xs : List α, (xs.flatMap enc).length = xs.length * sz
  | [] => by simp
  | x :: r => by rw [List.flatMap_cons, List.length_append, henc, flat_len henc r, List.length_cons, Nat.add_mul]; omega
/-- A new row that holds some cells, as an owned slice. -/
theorem St.newOwn {α : Type} {enc : α → List Value} {sz : Nat} {w : World} {e : TypeId} {i : TypeInfo} {z : Value} (hsz : i.size = sz) (hzs : z.cells.size = sz) (henc : ∀ x, (enc x).length = sz) (xs : List α) {old : Nat} (h63 : xs.length ≤ maxLen) (hold : old < xs.length) (h : St W M R w) {cs : Array Value} (hcs : cs.toList = xs.flatMap enc) :
    St W (ownL (.slice (some ⟨w.heap.size, 0, none⟩) xs.length (grownCap w xs.length old e)) e sz enc xs :: M) R (w.drew.alloc (.cells (cs ++ Builtin.zeroCells z.cells (grownCap w xs.length old e - xs.length)) e)) := by
  have hge := grownCap_ge w xs.length old e
  have hcm := grownCap_le_maxLen w xs.length old e h63
  have hd : St W M R w.drew := h.heap rfl rfl rfl rfl
  have hp := hd.push (.cells (cs ++ Builtin.zeroCells z.cells (grownCap w xs.length old e - xs.length)) e)
  have hl := flat_len henc xs
  have hcl : cs.size = xs.length * sz := by rw [← hl, ← hcs]; simp
  refine hp.replace Upd.here rfl rfl rfl ?_
  intro s' hs' hO'
  refine ⟨s', ⟨hl, .inr ⟨w.heap.size, grownCap w xs.length old e, _, rfl, hge, hcm, ?_, ?_, hs'⟩⟩, hO', fun b hb => .inl hb, fun _ _ _ => rfl⟩
  · simp only [Array.size_append, size_zeroCells, hzs, hcl, ← Nat.add_mul]
    congr 1; omega
  · simp only [Array.toList_append, hcs]
    rw [← hl]
    exact List.take_left
theorem St.rowCells {α : Type} {enc : α → List Value} {sz : Nat} {w : World} {oa : Option Addr} {ys : List α} (h : St W M R w) (hm : rowD oa sz enc ys ∈ R) (henc : ∀ x, (enc x).length = sz) (hne : 0 < ys.length) : ∃ b off, oa = some ⟨b, off, none⟩ ∧ ∀ j u, (ys.flatMap enc)[j]? = some u → w.cell? ((⟨b, off, none⟩ : Addr).add j) = some u := by
  obtain ⟨b2, off, rfl, hc⟩ := h.row hm hne
  refine ⟨b2, off, rfl, fun j u hu => ?_⟩
  have hj : j < ys.length * sz := by rw [← flat_len henc ys]; exact (List.getElem?_eq_some_iff.1 hu).1
  have hpos : 0 < sz := Nat.pos_of_ne_zero fun h => by rw [h] at hj; simp at hj
  have hlt : j % sz < sz := Nat.mod_lt _ hpos
  have hdiv : j / sz < ys.length := Nat.div_lt_of_lt_mul (by rw [Nat.mul_comm]; exact hj)
  have hkk : j = (j / sz) * sz + j % sz := by rw [Nat.mul_comm]; exact (Nat.div_add_mod j sz).symm
  have e1 := flat_at henc ys _ _ hdiv hlt
  rw [← hkk, hu] at e1
  rw [add_at]
  have e2 := hc _ _ hdiv hlt
  rw [Nat.add_assoc, ← hkk] at e2
  rw [e2, ← e1]
/-- 'append([]T{}, xs...)'. -/
theorem run_appN {α : Type} {enc : α → List Value} {sz : Nat} {w : World} {t ty e : TypeId} {i : TypeInfo} {z : Value} {ys : List α} {oa : Option Addr} {c b : Nat} (h : St W M R w) (hm : rowD oa sz enc ys ∈ R) (henc : ∀ x, (enc x).length = sz) (ht : P.underlying t = some (.slice e)) (hi : P.info? e = some i) (hz : i.zero = some z) (hsz : i.size = sz) (hzs : z.cells.size = sz)
    (hbd : ys.length ≤ 1000000 ∧ i.bytes ≤ 1000000) : ∃ v' w', (Builtin.append_ #[t, t] ty #[.slice (some ⟨b, 0, none⟩) 0 0, .slice oa ys.length c]).run P w = .ok v' w' ∧ St W (ownZ v' e sz enc ys :: M) R w' := by
  subst hsz
  by_cases hy : ys = []
  · subst hy
    refine ⟨.slice (some ⟨b, 0, none⟩) 0 0, w, ?_, ?_⟩
    · cases oa <;> simp [Builtin.append_, run_underlying ht, sizeOf, typeInfo, hi, Builtin.lenOf, Builtin.firstCells, loadCells, loadCellsFrom, storeCells]
    · obtain ⟨s, hS, hO, hR⟩ := h.mem
      exact ⟨h.os, h.tape, h.output, s, ⟨[], s, rfl, .inl ⟨⟨_, rfl⟩, rfl, rfl⟩, hS⟩, hO, hR⟩
  · have hne : 0 < ys.length := List.length_pos_iff.2 hy
    obtain ⟨b2, off, rfl, hnews⟩ := h.rowCells hm henc hne
    have hl := flat_len henc ys
    have hby : ys.length * i.bytes ≤ 140737488355328 := by
      have : ys.length * i.bytes ≤ 1000000 * 1000000 := Nat.mul_le_mul hbd.1 hbd.2
      omega
    have hr := run_append_grow (P := P) w t ty e i z ht hi hz ⟨b, 0, none⟩ 0 0 [] (by simp) (by simp) ⟨b2, off, none⟩ ys.length c (ys.flatMap enc) hl hnews (by omega) (by omega) (growslice_fits (by omega) (by rw [Nat.zero_add]; exact hby))
    have hgr := h.newOwn (e := e) (z := z) (i := i) rfl hzs henc ys (old := 0) (by simp only [maxLen]; omega) hne (cs := (ys.flatMap enc).toArray) (by simp)
    simp only [Nat.zero_add, List.nil_append] at hr
    refine ⟨_, _, hr, ?_⟩
    refine St.replace (r := ownL (.slice (some ⟨w.heap.size, 0, none⟩) ys.length (grownCap w ys.length 0 e)) e i.size enc ys) ?_ Upd.here rfl rfl rfl (fun s' hs' hO' => ⟨s', .inr hs', hO', fun b hb => .inl hb, fun _ _ _ => rfl⟩)
    simpa using hgr
/-- An empty literal's slice. -/
def isL0 (v : Value) : Prop := ∃ b, v = .slice (some ⟨b, 0, none⟩) 0 0
abbrev Spc.l0 : Spc := Spc.g isL0 (fun _ => []) (fun _ => [])
theorem run_lit0 {w : World} {t e : TypeId} {i : TypeInfo} {ρ : Operand → Value} (ho : o.op = .buildSlice t 0 #[]) (ht : P.underlying t = some (.slice e)) (hi : P.info? e = some i) : (execOp ρ o).run P w = .ok (.value (.slice (some ⟨w.heap.size, 0, none⟩) 0 0)) (w.alloc (.cells #[] e)) := by
  simp only [execOp, ho, Instr.buildSlice, Sem.run_bind, run_underlying ht, run_sizeOf' hi, Result.andThen_ok]
  simp [newRow, newObj, Sem.run, Instr.fill]
  congr 2
  exact Array.eq_empty_of_size_eq_zero (by simp)
theorem p_lit0 {ops : Array Oper} {K : List Spc → Prop} {rest : List Oper} {acc : List Spc} {t e : TypeId} {i : TypeInfo} {d : Nat} (ho : o.op = .buildSlice t 0 #[]) (ht : P.underlying t = some (.slice e)) (hi : P.info? e = some i) (hg : o.guard = none) (hdst : o.dst = some d) (hd : Nat.blt d n = true)
    (hr : ParO P W n M R ops K rest (acc ++ [Spc.l0]) L) : ParO P W n M R ops K (o :: rest) acc L := by
  refine ⟨Spc.l0, by simp [hdst, hd], .inl ⟨rfl, .inl ⟨.inl hg, ?_⟩⟩, by simpa [addL, Spc.g] using hr⟩
  intro Mx Rx a w g1 g3
  have g3 : St W (Mx ++ M) (Rx ++ R) w := g3
  rw [run_lit0 ho ht hi]
  exact ⟨⟨_, rfl⟩, (g3.push _).drop⟩
theorem o_lit0' {ops : Array Oper} {rest : List Oper} {t e : TypeId} {i : TypeInfo} {d : Nat} (ho : o.op = .buildSlice t 0 #[]) (ht : P.underlying t = some (.slice e)) (hi : P.info? e = some i) (hg : o.guard = none) (hdst : o.dst = some d) (hd : Nat.blt d n = true)
    (h : ∀ b, Imp W n D ((d, .slice (some ⟨b, 0, none⟩) 0 0) :: L) M R (wpList P ops Q rest)) : Imp W n D L M R (wpList P ops Q (o :: rest)) := by
  intro a w g1 g2 g3
  refine wpList_plain hg fun K hK => ?_
  unfold Oper.wp
  rw [run_lit0 ho ht hi, Oper.upon_value, hdst]
  exact hK _ _ (h w.heap.size _ _ (g1.put (by simpa using hd) _) (by rw [put_defers]; exact g2) (g3.push _).drop)
abbrev Spc.oz {α : Type} (e : TypeId) (sz : Nat) (enc : α → List Value) (ys : List α) : Spc := Spc.g (fun _ => True) (fun v => [ownZ v e sz enc ys]) (fun _ => [])
theorem p_appN {α : Type} {enc : α → List Value} {ops : Array Oper} {K : List Spc → Prop} {rest : List Oper} {acc : List Spc} {d x : Nat} {y : Operand} {t e : TypeId} {i : TypeInfo} {z : Value} {sz c : Nat} {oa : Option Addr} {ys : List α} (j : Nat) {oj : Oper} [hrow : HasRow oa R sz enc ys] (hoj : ops[j]? = some oj) (hx : oj.dst.getD 1000000 = x) (hsj : acc[j]? = some Spc.l0) (hdep : depOn o j = true)
    (hg : o.guard = none) (hdst : o.dst = some d) (hd : Nat.blt d n = true) (ho : o.op = .call { callee := .builtin .append, args := #[.tmp x, y], argTypes := #[t, t] }) (ht : P.underlying t = some (.slice e)) (hi : P.info? e = some i) (hz : i.zero = some z) (hsz : i.size = sz) (hzs : z.cells.size = sz) (henc : ∀ x, (enc x).length = sz)
    (hy : ∀ u, ev ((x, u) :: L) y = some (.slice oa ys.length c)) (hbd : ys.length ≤ 1000000 ∧ i.bytes ≤ 1000000) (h : ParO P W n M R ops K rest (acc ++ [Spc.oz e sz enc ys]) L) : ParO P W n M R ops K (o :: rest) acc L := by
  refine ⟨Spc.oz e sz enc ys, by simp [hdst, hd], .inl ⟨rfl, .inr (.inr (.inl ⟨hg, j, oj, Spc.l0, hoj, hsj, rfl, hdep, ?_⟩))⟩, by simpa [addL, Spc.g] using h⟩
  rintro u ⟨b, rfl⟩
  rw [hx]
  intro Mx Rx a w g1 g3
  have g3 : St W (Mx ++ M) (Rx ++ R) w := g3
  obtain ⟨v', w', hr, hw'⟩ := run_appN (P := P) (ty := o.type) (c := c) (b := b) g3 (List.mem_append_right _ hrow.mem) henc ht hi hz hsz hzs hbd
  have hxe : ev ((x, Value.slice (some ⟨b, 0, none⟩) 0 0) :: L) (.tmp x) = some (.slice (some ⟨b, 0, none⟩) 0 0) := by simp [ev, look_cons_eq]
  have hrun : (execOp a.eval o).run P w = .ok (.value v') w' := by
    unfold execOp
    simp only [ho, resolve, invoke, builtin, Sem.run_bind, Sem.run_pure, Result.andThen_ok, List.map_toArray, List.map_cons, List.map_nil, g1.ev hxe, g1.ev (hy _), hr]
  rw [hrun]
  exact ⟨trivial, hw'⟩
theorem f_oz {α : Type} {X : Act → World → Prop} {os : List Oper} {ss : List Spc} {e : TypeId} {sz : Nat} {enc : α → List Value} {ys : List α} {d : Nat} (hdst : o.dst = some d) (h : ∀ v, Fin W n D X os ss ((d, v) :: L) (ownZ v e sz enc ys :: M) R) : Fin W n D X (o :: os) (Spc.oz e sz enc ys :: ss) L M R := f_g hdst (fun v _ => h v)
theorem f_l0 {X : Act → World → Prop} {os : List Oper} {ss : List Spc} {d : Nat} (hdst : o.dst = some d) (h : ∀ b, Fin W n D X os ss ((d, .slice (some ⟨b, 0, none⟩) 0 0) :: L) M R) : Fin W n D X (o :: os) (Spc.l0 :: ss) L M R := f_g hdst (by rintro v ⟨b, rfl⟩; exact h b)
/-- In the order of the text, of cells that are known. -/
theorem o_appN {α : Type} {enc : α → List Value} {ops : Array Oper} {rest : List Oper} {d b c : Nat} {x y : Operand} {t e : TypeId} {i : TypeInfo} {z : Value} {sz : Nat} {oa : Option Addr} {ys : List α} [hrow : HasRow oa R sz enc ys] (ho : o.op = .call { callee := .builtin .append, args := #[x, y], argTypes := #[t, t] }) (ht : P.underlying t = some (.slice e)) (hi : P.info? e = some i) (hz : i.zero = some z) (hsz : i.size = sz) (hzs : z.cells.size = sz) (henc : ∀ x, (enc x).length = sz)
    (hg : o.guard = none) (hdst : o.dst = some d) (hd : Nat.blt d n = true) (hx : ev L x = some (.slice (some ⟨b, 0, none⟩) 0 0)) (hy : ev L y = some (.slice oa ys.length c)) (hbd : ys.length ≤ 1000000 ∧ i.bytes ≤ 1000000)
    (h : ∀ v, Imp W n D ((d, v) :: L) (ownZ v e sz enc ys :: M) R (wpList P ops Q rest)) : Imp W n D L M R (wpList P ops Q (o :: rest)) := by
  intro a w g1 g2 g3
  refine wpList_plain hg fun K hK => ?_
  unfold Oper.wp
  obtain ⟨v', w', hr, hw'⟩ := run_appN (P := P) (ty := o.type) (c := c) (b := b) g3 hrow.mem henc ht hi hz hsz hzs hbd
  have hrun : (execOp a.eval o).run P w = .ok (.value v') w' := by
    unfold execOp
    simp only [ho, resolve, invoke, builtin, Sem.run_bind, Sem.run_pure, Result.andThen_ok, List.map_toArray, List.map_cons, List.map_nil, g1.ev hx, g1.ev hy, hr]
  rw [hrun, Oper.upon_value, hdst]
  exact hK _ _ (h v' _ w' (g1.put (by simpa using hd) v') (by rw [put_defers]; exact g2) hw')
theorem St.ownZ_cases {α : Type} {enc : α → List Value} {sz : Nat} {w : World} {v : Value} {e : TypeId} {xs : List α} {M' : List Res} (h : St W (ownZ v e sz enc xs :: M') R w) : ((∃ oa, v = .slice oa 0 0) ∧ xs = [] ∧ St W M' R w) ∨ St W (ownL v e sz enc xs :: M') R w := by
  obtain ⟨s, ⟨s1, s2, rfl, hz, hS⟩, hO, hR⟩ := h.mem
  rcases hz with ⟨hv, hx, rfl⟩ | hz
  · exact .inl ⟨hv, hx, ⟨h.os, h.tape, h.output, s2, hS, by simpa using hO, by simpa using hR⟩⟩
  · exact .inr ⟨h.os, h.tape, h.output, s1 ++ s2, ⟨s1, s2, rfl, hz, hS⟩, hO, hR⟩
/-- An owned slice that holds something, as a box with room behind. -/
theorem Imp.openZ {α : Type} {enc : α → List Value} {sz : Nat} {T : TypeId} {xs : List α} {M' : List Res} {X : Act → World → Prop} (v : Value) [hd : DelC M (ownZ v T sz enc xs) M'] (hne : 0 < xs.length)
    (h : ∀ b cap sp, v = .slice (some ⟨b, 0, none⟩) xs.length cap → Imp W n D L (bx b T (xs.flatMap enc ++ sp) :: M') R X) : Imp W n D L M R X := by
  intro a w g1 g2 g3
  have g4 : St W (ownZ v T sz enc xs :: M') R w := g3.perm hd.del.perm
  rcases g4.ownZ_cases with ⟨_, hx, _⟩ | g5
  · subst hx; simp at hne
  · obtain ⟨s, ⟨s1, s2, rfl, ho, hS⟩, hO, hR⟩ := g5.mem
    obtain ⟨hlen, ⟨_, h0, _⟩ | ⟨b, cap, C, rfl, hmc, hcm, hC, htake, rfl⟩⟩ := ho
    · omega
    · refine h b cap (C.toList.drop (xs.length * sz)) rfl a w g1 g2 ⟨g5.os, g5.tape, g5.output, _, ⟨_, s2, rfl, ?_, hS⟩, hO, hR⟩
      show _ = _
      rw [← htake, List.take_append_drop]
theorem Imp.openL {α : Type} {enc : α → List Value} {sz : Nat} {T : TypeId} {xs : List α} {M' : List Res} {X : Act → World → Prop} (v : Value) [hd : HasOwn v M T sz enc xs M'] (hne : 0 < xs.length)
    (h : ∀ b cap sp, v = .slice (some ⟨b, 0, none⟩) xs.length cap → Imp W n D L (bx b T (xs.flatMap enc ++ sp) :: M') R X) : Imp W n D L M R X := by
  intro a w g1 g2 g3
  have g4 : St W (ownL v T sz enc xs :: M') R w := g3.perm hd.del.perm
  have g5 : St W (ownZ v T sz enc xs :: M') R w := by
    obtain ⟨s, ⟨s1, s2, rfl, hz, hS⟩, hO, hR⟩ := g4.mem
    exact ⟨g4.os, g4.tape, g4.output, s1 ++ s2, ⟨s1, s2, rfl, .inr hz, hS⟩, hO, hR⟩
  haveI : DelC (ownZ v T sz enc xs :: M') (ownZ v T sz enc xs) M' := ⟨Del.here⟩
  exact Imp.openZ (sz := sz) (M := ownZ v T sz enc xs :: M') v hne h a w g1 g2 g5
/-- For good. -/
theorem Imp.settleZ {α : Type} {enc : α → List Value} {sz : Nat} {T : TypeId} {xs : List α} {M' : List Res} {X : Act → World → Prop} (v : Value) [hd : DelC M (ownZ v T sz enc xs) M'] (henc : ∀ x, (enc x).length = sz) (h : ∀ oa cap, v = .slice oa xs.length cap → Imp W n D L M' (rowD oa sz enc xs :: R) X) : Imp W n D L M R X := by
  intro a w g1 g2 g3
  have g4 : St W (ownZ v T sz enc xs :: M') R w := g3.perm hd.del.perm
  rcases g4.ownZ_cases with ⟨⟨oa, hv⟩, rfl, g5⟩ | g5
  · exact h oa 0 hv a w g1 g2 (g5.derive (fun V _ => .inl rfl))
  · haveI : HasOwn v (ownL v T sz enc xs :: M') T sz enc xs M' := ⟨Del.here⟩
    exact Imp.settleS (M := ownL v T sz enc xs :: M') v henc h a w g1 g2 g5
/-- What a box for good holds first, as a row. -/
theorem Imp.rowP {α : Type} {enc : α → List Value} {sz : Nat} {b : Nat} {T : TypeId} {vs sp : List Value} {X : Act → World → Prop} (xs : List α) (henc : ∀ x, (enc x).length = sz) [hb : HasBoxF b R T vs] (e : vs = xs.flatMap enc ++ sp) (h : Imp W n D L M (rowD (some ⟨b, 0, none⟩) sz enc xs :: R) X) : Imp W n D L M R X := by
  subst e
  refine h.derive fun V hV => .inr ⟨b, 0, _, T, (0, 0), rfl, hV _ hb.mem, fun i j hi hj => ?_⟩
  rw [← flat_at henc xs i j hi hj, Nat.zero_add]
  have : (i + 1) * sz ≤ xs.length * sz := Nat.mul_le_mul_right _ hi
  rw [Nat.add_mul] at this
  rw [List.getElem?_toArray, List.getElem?_append_left (by rw [flat_len henc]; omega)]
/-- The address of an element of an owned slice. -/
theorem v_indexAddrB {T : TypeId} {x ix : Operand} {l c b : Nat} {e : TypeId} {i : TypeInfo} {k : Nat} {kd : IntKind} (ho : o.op = .indexAddr T x ix) (hT : P.underlying T = some (.slice e)) (hi : P.info? e = some i)
    (hx : ev L x = some (.slice (some ⟨b, 0, none⟩) l c)) (hk : ev L ix = some (.int kd (k : Int))) (h1 : k < l) : OpQ P W n L M R o (pt b (k * i.size)) :=
  OpQ.of_value fun g w g1 _ => by
    simp [execOp, ho, g1.ev hx, g1.ev hk, Instr.indexAt, pt, run_underlying hT, asIntOf, h1, run_sizeOf' hi, add_at]
/-- A state in the middle of a text. -/
def Mid {ι : Type} (W : World) (n : Nat) (D : List Deferred) (I : ι → Prop) (LI : ι → Tm) (MI : ι → List Res) (RI : ι → List Fact) (a : Act) (w : World) : Prop := ∃ i, I i ∧ Here W n D (LI i) (MI i) (RI i) a w
theorem r_here_mid {ι : Type} {I : ι → Prop} {LI : ι → Tm} {MI : ι → List Res} {RI : ι → List Fact} (i : ι) (h : Imp W n D L M R (Here W n D (LI i) (MI i) (RI i))) (hI : I i) : Imp W n D L M R (Mid W n D I LI MI RI) := h.mono fun _ _ hx => ⟨i, hI, hx⟩
theorem r_mid {ι : Type} {x y : Code} (I : ι → Prop) (LI : ι → Tm) (MI : ι → List Res) (RI : ι → List Fact) (h1 : Imp W n D L M R (x.wp P (Exit.then (Mid W n D I LI MI RI) Q))) (h2 : ∀ i, I i → Imp W n D (LI i) (MI i) (RI i) (y.wp P Q)) : Imp W n D L M R ((Code.seq x y).wp P Q) := by
  refine r_seq (h1.mono fun a w hx => ?_)
  refine Code.wp_mono (fun e a' w' he => ?_) hx
  cases e
  case normal =>
    obtain ⟨i, hi, g1, g2, g3⟩ := he
    exact h2 i hi a' w' g1 g2 g3
  all_goals exact he
end Go.G


namespace Foot4
open Go Go.G
def okB (F : Work) (men : Int) (b : List T3) (p : T3) : Bool := decide (ruleR F (b ++ [p]) men b.length 0 = 0 ∧ ruleR F (b ++ [p]) men b.length 1 = 0 ∧ ruleR F (b ++ [p]) men b.length 2 = 0)
def choices (F : Work) (h : Nat) : List T3 := noneT :: sureR F h
/-- All right plans that go on from some, r heaps being left. -/
def plansL (F : Work) (men : Int) : Nat → List T3 → List (List T3)
  | 0, b => [b]
  | r + 1, b => (choices F b.length).flatMap fun p => if okB F men b p then plansL F men r (b ++ [p]) else []
def plansT (F : Work) (men : Int) (r : Nat) (b : List T3) (i : Nat) : List (List T3) := ((choices F b.length).take i).flatMap fun p => if okB F men b p then plansL F men r (b ++ [p]) else []
section
variable {F : Work} {men : Int} {r : Nat} {b : List T3} {i : Nat} {p : T3}
end
abbrev wN (F : Work) : Nat := (whole F.rain.length).length
/-! ### right plans, in order -/
def allR (F : Work) (men : Int) : Nat → List Int → List (List T3)
  | 0, _ => [[]]
  | r + 1, B => (noneT :: (sureF selW F (F.heaps.length - (r + 1))).filter (freeB men B)).flatMap fun p => (allR F men r (with_ B p)).map (p :: ·)
def lexLt : List T3 → List T3 → Prop
  | a :: l, b :: q => lex a b ∨ a = b ∧ lexLt l q
  | _, _ => False
/-! ### the first of the best -/
def moreS (F : Work) (x y : List T3) : Bool := decide (sodsR F y < sodsR F x)
def firstL (F : Work) (men : Int) : List T3 := best2 (moreS F) default (plansL F men F.heaps.length []) (plansL F men F.heaps.length []).length
end Foot4


namespace Foot4
open Go Go.G
def RowsL (xs : List Inner) (LL : List (List T3)) : Prop := xs.length = LL.length ∧ ∀ h, h < xs.length → (xs.getD h default).2.1 = (LL.getD h default).length
def rowsF (xs : List Inner) (LL : List (List T3)) : Fact := fun V => ∀ h, h < xs.length → rowD (xs.getD h default).1 3 encT (LL.getD h default) V
end Foot4


namespace Go.Proofs.Ytienjlmnakbfmaa
open Go.G Foot4
set_option maxRecDepth 1000000
attribute [local irreducible] G.ParO G.Fin
variable (F : Work) (ro ho : Option Addr) (rc hc : Nat)
end Go.Proofs.Ytienjlmnakbfmaa


namespace Go.Proofs.Ytienjlmnakbfmaa
open Go.G Foot4
set_option maxRecDepth 1000000
attribute [local irreducible] G.ParO G.Fin
def Heavy (F : Work) : Prop := (40 < F.rain.length ∨ 40 < F.heaps.length) ∨ (GoodF F ∧ 9 - (F.heaps.length : Int) < F.rain.length)
instance (F : Work) : Decidable (Heavy F) := by unfold Heavy; infer_instance
variable (F : Work) (ro ho : Option Addr) (rc hc : Nat)
end Go.Proofs.Ytienjlmnakbfmaa


set_option linter.unusedVariables false
namespace Go.G
variable {P : Program} {W : World} {n : Nat} {D : List Deferred} {L : Tm} {M : List Res} {R : List Fact} {Q : Exit → Act → World → Prop} {o : Oper}
theorem o_appB {α : Type} {enc : α → List Value} {ops : Array Oper} {rest : List Oper} {d b lb c : Nat} {x y : Operand} {t e B : TypeId} {i : TypeInfo} {z : Value} {sz : Nat} {vs sp : List Value} (ys : List α) [hb : HasBox lb M B vs] (hvs : vs = ys.flatMap enc ++ sp) (hne : 0 < ys.length) (ho : o.op = .call { callee := .builtin .append, args := #[x, y], argTypes := #[t, t] }) (ht : P.underlying t = some (.slice e)) (hi : P.info? e = some i) (hz : i.zero = some z) (hsz : i.size = sz) (hzs : z.cells.size = sz) (henc : ∀ x, (enc x).length = sz)
    (hg : o.guard = none) (hdst : o.dst = some d) (hd : Nat.blt d n = true) (hx : ev L x = some (.slice (some ⟨b, 0, none⟩) 0 0)) (hy : ev L y = some (.slice (some ⟨lb, 0, none⟩) ys.length c)) (hbd : ys.length ≤ 1000000 ∧ i.bytes ≤ 1000000)
    (h : ∀ v, Imp W n D ((d, v) :: L) (ownZ v e sz enc ys :: M) R (wpList P ops Q rest)) : Imp W n D L M R (wpList P ops Q (o :: rest)) := by
  subst hsz
  intro a w g1 g2 g3
  refine wpList_plain hg fun K hK => ?_
  unfold Oper.wp
  have hl := flat_len henc ys
  have hnews : ∀ j u, (ys.flatMap enc)[j]? = some u → w.cell? ((⟨lb, 0, none⟩ : Addr).add j) = some u := fun j u hu => by
    rw [add_at, Nat.zero_add, g3.cell hb.mem, hvs, List.getElem?_append_left (List.getElem?_eq_some_iff.1 hu).1]
    exact hu
  have hby : ys.length * i.bytes ≤ 140737488355328 := by
    have : ys.length * i.bytes ≤ 1000000 * 1000000 := Nat.mul_le_mul hbd.1 hbd.2
    omega
  have hr := run_append_grow (P := P) w t o.type e i z ht hi hz ⟨b, 0, none⟩ 0 0 [] (by simp) (by simp) ⟨lb, 0, none⟩ ys.length c (ys.flatMap enc) hl hnews (by omega) (by omega) (growslice_fits (by omega) (by rw [Nat.zero_add]; exact hby))
  have hgr := g3.newOwn (e := e) (z := z) (i := i) rfl hzs henc ys (old := 0) (by simp only [maxLen]; omega) hne (cs := (ys.flatMap enc).toArray) (by simp)
  simp only [Nat.zero_add] at hr
  have run : ∃ v' w', (Builtin.append_ #[t, t] o.type #[.slice (some ⟨b, 0, none⟩) 0 0, .slice (some ⟨lb, 0, none⟩) ys.length c]).run P w = .ok v' w' ∧ St W (ownZ v' e i.size enc ys :: M) R w' := by
    refine ⟨_, _, hr, ?_⟩
    refine St.replace (r := ownL (.slice (some ⟨w.heap.size, 0, none⟩) ys.length (grownCap w ys.length 0 e)) e i.size enc ys) ?_ Upd.here rfl rfl rfl (fun s' hs' hO' => ⟨s', .inr hs', hO', fun b hb => .inl hb, fun _ _ _ => rfl⟩)
    simpa using hgr
  obtain ⟨v', w', hr', hw'⟩ := run
  have hrun : (execOp a.eval o).run P w = .ok (.value v') w' := by
    unfold execOp
    simp only [ho, resolve, invoke, builtin, Sem.run_bind, Sem.run_pure, Result.andThen_ok, List.map_toArray, List.map_cons, List.map_nil, g1.ev hx, g1.ev hy, hr']
  rw [hrun, Oper.upon_value, hdst]
  exact hK _ _ (h v' _ w' (g1.put (by simpa using hd) _) (by rw [put_defers]; exact g2) hw')
end Go.G


namespace Foot4
open Go Go.G
abbrev downHi (s : Span) : Span := ⟨s.lo, max s.lo (s.hi - 1)⟩
abbrev downWet (h : Heap) : Heap := ⟨h.lo, max h.lo (h.hi - 1), h.sods⟩
def easeTo (F : Work) (what which : Nat) : Work :=
  if what % 4 = 0 then ⟨F.rain.set (which % F.rain.length) (downHi (F.rain.getD (which % F.rain.length) default)), F.men, F.lim, F.dr, F.heaps⟩
  else if what % 4 = 1 then ⟨F.rain, F.men, F.lim, F.dr, F.heaps.set (which % F.heaps.length) (downWet (F.heaps.getD (which % F.heaps.length) default))⟩
  else if what % 4 = 2 then ⟨F.rain, F.men, F.lim.put (which % 3) (min 60 (F.lim.at (which % 3) + 1)), F.dr, F.heaps⟩
  else ⟨F.rain, F.men, F.lim, F.dr.put (which % 3) (min 10 (F.dr.at (which % 3) + 1)), F.heaps⟩
theorem getD_set' {α : Type} [Inhabited α] {l : List α} {i k : Nat} {y : α} (hi : i < l.length) : (l.set i y).getD k default = if k = i then y else l.getD k default := by
  simp only [List.getD_eq_getElem?_getD]
  by_cases e : k = i
  · subst e; rw [List.getElem?_set_self hi, if_pos rfl]; rfl
  · rw [List.getElem?_set_ne (Ne.symm e), if_neg e]
theorem put_at {p : T3} {i k : Nat} {x : Int} (hi : i < 3) (hk : k < 3) : (p.put i x).at k = if k = i then x else p.at k := by
  obtain rfl | rfl | rfl : i = 0 ∨ i = 1 ∨ i = 2 := by omega
  all_goals (obtain rfl | rfl | rfl : k = 0 ∨ k = 1 ∨ k = 2 := by omega) <;> rfl
theorem put_atg {p : T3} {i : Nat} {x : Int} (hi : i < 3) (hx : p.at i ≤ x) : ∀ k, p.at k ≤ (p.put i x).at k := fun k => by
  by_cases hk : k < 3
  · rw [put_at hi hk]
    split
    · rename_i e; subst e; exact hx
    · exact Int.le_refl _
  · have e1 : ∀ q : T3, q.at k = q.at 2 := fun q => by simp [T3.at]; omega
    rw [e1 p, e1 (p.put i x), put_at hi (by omega)]
    split
    · rename_i e; subst e; exact hx
    · exact Int.le_refl _
theorem ease_ok {F : Work} (hg : GoodF F) (hh : 0 < F.heaps.length) (what which : Nat) : Ease F (easeTo F what which) := by
  obtain ⟨g1, g2, g3, g4, g5, g6⟩ := id hg
  have hr : 0 < F.rain.length := by omega
  have hri := Nat.mod_lt which hr
  have hhi := Nat.mod_lt which hh
  have h3 := Nat.mod_lt which (show 0 < 3 by decide)
  unfold easeTo
  split
  · have hs := g4 _ hri
    refine ⟨⟨by simpa using g1, g2, g3, fun k hk => ?_, g5, g6⟩, rfl, by simp, rfl, fun k => ?_, fun _ => Int.le_refl _, fun _ => rfl, fun _ => Int.le_refl _, fun _ => Int.le_refl _⟩
    · have hk : k < F.rain.length := by simpa using hk
      dsimp only
      rw [getD_set' hri]
      split
      · rename_i e; dsimp only; omega
      · exact g4 k hk
    · dsimp only
      rw [getD_set' hri]
      split
      · rename_i e; subst e; dsimp only; omega
      · exact Int.le_refl _
  · split
    · have hs := g6 _ hhi
      refine ⟨⟨g1, g2, by simpa using g3, g4, g5, fun k hk => ?_⟩, rfl, rfl, by simp, fun _ => Int.le_refl _, fun k => ?_, fun k => ?_, fun _ => Int.le_refl _, fun _ => Int.le_refl _⟩
      · have hk : k < F.heaps.length := by simpa using hk
        dsimp only
        rw [getD_set' hhi]
        split
        · rename_i e; dsimp only; omega
        · exact g6 k hk
      · dsimp only
        rw [getD_set' hhi]
        split
        · rename_i e; subst e; dsimp only; omega
        · exact Int.le_refl _
      · dsimp only
        rw [getD_set' hhi]
        split
        · rename_i e; subst e; rfl
        · rfl
    · split
      · have hs := g5 _ h3
        refine ⟨⟨g1, g2, g3, g4, fun k hk => ?_, g6⟩, rfl, rfl, rfl, fun _ => Int.le_refl _, fun _ => Int.le_refl _, fun _ => rfl, put_atg h3 (by omega), fun _ => Int.le_refl _⟩
        dsimp only
        rw [put_at h3 hk]
        have := g5 k hk
        refine ⟨?_, this.2⟩
        split
        · rename_i e; omega
        · exact this.1
      · have hs := g5 _ h3
        refine ⟨⟨g1, g2, g3, g4, fun k hk => ?_, g6⟩, rfl, rfl, rfl, fun _ => Int.le_refl _, fun _ => Int.le_refl _, fun _ => rfl, fun _ => Int.le_refl _, put_atg h3 (by omega)⟩
        dsimp only
        rw [put_at h3 hk]
        have := g5 k hk
        refine ⟨this.1, ?_⟩
        split
        · rename_i e; omega
        · exact this.2
/-- The easier work, case by case. -/
theorem ease_0 {F : Work} {what which : Nat} (h : what % 4 = 0) : easeTo F what which = ⟨F.rain.set (which % F.rain.length) (downHi (F.rain.getD (which % F.rain.length) default)), F.men, F.lim, F.dr, F.heaps⟩ := if_pos h
theorem ease_1 {F : Work} {what which : Nat} (h : what % 4 = 1) : easeTo F what which = ⟨F.rain, F.men, F.lim, F.dr, F.heaps.set (which % F.heaps.length) (downWet (F.heaps.getD (which % F.heaps.length) default))⟩ := by
  unfold easeTo; rw [if_neg (by omega), if_pos h]
theorem ease_2 {F : Work} {what which : Nat} (h : what % 4 = 2) : easeTo F what which = ⟨F.rain, F.men, F.lim.put (which % 3) (min 60 (F.lim.at (which % 3) + 1)), F.dr, F.heaps⟩ := by
  unfold easeTo; rw [if_neg (by omega), if_neg (by omega), if_pos h]
theorem ease_3 {F : Work} {what which : Nat} (h0 : ¬ what % 4 = 0) (h1 : ¬ what % 4 = 1) (h2 : ¬ what % 4 = 2) : easeTo F what which = ⟨F.rain, F.men, F.lim, F.dr.put (which % 3) (min 10 (F.dr.at (which % 3) + 1)), F.heaps⟩ := by
  unfold easeTo; rw [if_neg h0, if_neg h1, if_neg h2]
/-- Soonest, of both. -/
theorem ease_soon {F X : Work} (hg : GoodF F) (h : Ease F X) {heap : Nat} (hh : heap < F.heaps.length) : (soonP F heap).2 = 0 → (soonP X heap).2 = 0 ∧ (soonP X heap).1.c ≤ (soonP F heap).1.c := fun he => by
  rcases Bool.eq_false_or_eq_true (sureQ selW F heap) with hq | hq
  · rw [soonP_yes hg hh hq, soonP_yes h.good (by rw [h.hl]; exact hh) (h.sureq hq)]
    exact ⟨rfl, h.soon hq⟩
  · rw [soonP_no hg hh hq] at he
    exact absurd he (by decide)
/-- Heaps in the other order, the first k. -/
def revT (F : Work) (k : Nat) : List Heap := F.heaps.reverse.take k
theorem revT_next {F : Work} {k : Nat} (hk : k < F.heaps.length) : revT F k ++ [F.heaps.getD (F.heaps.length - 1 - k) default] = revT F (k + 1) := by
  unfold revT
  rw [take_getD (by rw [List.length_reverse]; exact hk)]
  congr 2
  have := rev_at (l := F.heaps) (k := F.heaps.length - 1 - k) (by omega)
  rw [show F.heaps.length - 1 - (F.heaps.length - 1 - k) = k from by omega] at this
  exact this.symm
theorem revT_all {F : Work} : revT F F.heaps.length = F.heaps.reverse := by
  unfold revT
  rw [List.take_of_length_le (by simp)]
theorem revT_len {F : Work} {k : Nat} (hk : k ≤ F.heaps.length) : (revT F k).length = k := by simp [revT]; omega
/-! ### stores into rows -/
theorem splice_len : ∀ (us vs : List Value) (off : Nat), (splice vs off us).length = vs.length
  | [], _, _ => rfl
  | u :: us, vs, off => by
    show (splice (vs.set off u) (off + 1) us).length = _
    rw [splice_len us, List.length_set]
theorem flat_set {α : Type} [Inhabited α] {enc : α → List Value} {sz : Nat} (henc : ∀ x, (enc x).length = sz) {y : α} {v : Value} {sp : List Value} : ∀ (xs : List α) (i j : Nat), i < xs.length → j < sz → enc y = (enc (xs.getD i default)).set j v → (xs.flatMap enc ++ sp).set (i * sz + j) v = (xs.set i y).flatMap enc ++ sp
  | [], i, j, h, _, _ => by simp at h
  | x :: r, 0, j, _, hj, he => by
    simp only [List.flatMap_cons, List.set_cons_zero, Nat.zero_mul, Nat.zero_add, List.append_assoc]
    rw [List.set_append_left _ _ (by rw [henc]; exact hj)]
    have he : enc y = (enc x).set j v := he
    rw [he]
  | x :: r, i + 1, j, h, hj, he => by
    simp only [List.flatMap_cons, List.set_cons_succ, List.append_assoc]
    rw [List.set_append_right _ _ (by rw [henc, Nat.add_mul]; omega), henc, show (i + 1) * sz + j - sz = i * sz + j from by rw [Nat.add_mul]; omega]
    rw [flat_set henc r i j (by simpa using h) hj he]
theorem flat_get {α : Type} [Inhabited α] {enc : α → List Value} {sz : Nat} (henc : ∀ x, (enc x).length = sz) {sp : List Value} {xs : List α} {i j : Nat} (hi : i < xs.length) (hj : j < sz) : (xs.flatMap enc ++ sp)[i * sz + j]? = (enc (xs.getD i default))[j]? := by
  have h : i * sz + j < (xs.flatMap enc).length := by
    rw [flat_len henc]
    have : (i + 1) * sz ≤ xs.length * sz := Nat.mul_le_mul_right _ hi
    rw [Nat.add_mul] at this; omega
  rw [List.getElem?_append_left h, flat_at henc xs i j hi hj]
  congr 1
  simp [List.getD_eq_getElem?_getD, hi]
theorem cells_lim {F : Work} {ro ho : Option Addr} {rc hc : Nat} {k : Nat} {x : Int} (hk : k < 3) : (cellsF F ro rc ho hc).set (0 + 2 + k * 1) (i64 x) = cellsF ⟨F.rain, F.men, F.lim.put k x, F.dr, F.heaps⟩ ro rc ho hc := by
  obtain rfl | rfl | rfl : k = 0 ∨ k = 1 ∨ k = 2 := by omega
  all_goals rfl
theorem cells_dr {F : Work} {ro ho : Option Addr} {rc hc : Nat} {k : Nat} {x : Int} (hk : k < 3) : (cellsF F ro rc ho hc).set (0 + 5 + k * 1) (i64 x) = cellsF ⟨F.rain, F.men, F.lim, F.dr.put k x, F.heaps⟩ ro rc ho hc := by
  obtain rfl | rfl | rfl : k = 0 ∨ k = 1 ∨ k = 2 := by omega
  all_goals rfl
end Foot4

