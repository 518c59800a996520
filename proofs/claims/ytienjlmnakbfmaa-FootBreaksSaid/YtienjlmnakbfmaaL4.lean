/- Part 4 of 5 of what the proofs of this seat stand on: a small logic for walks, what the functions come to, and the walks themselves. No condition of its own. -/
import Derived.Test.YtienjlmnakbfmaaL3
import Derived.Laws.MakeOwn
import Derived.Laws.CopyRow
import Derived.ChangeKeysEq
import Derived.Test.YtienjlmnakbfmaaL1
namespace Foot4
open Go Go.G
@[reducible] def valWay (w : Way) : Value := .agg #[i64 w.sods, i64 w.plan.a, i64 w.plan.b, i64 w.plan.c]
@[reducible] def keyL (hp : Nat) (B : List Int) : Value := .agg (i64 hp :: B.map iv).toArray
def okW (F : Work) (men : Int) (kv v : Value) : Prop := ∀ hp r B, hp + r = F.heaps.length → kv = keyL hp B → v = valWay (bestW F men r B)
theorem map_iv_inj : ∀ {A B : List Int}, A.map iv = B.map iv → A = B
  | [], [], _ => rfl
  | [], _ :: _, h => by simp at h
  | _ :: _, [], h => by simp at h
  | a :: A, b :: B, h => by
    simp only [List.map_cons, List.cons.injEq, iv, Value.int.injEq, true_and] at h
    rw [h.1, map_iv_inj h.2]
theorem keyL_inj {hp hq : Nat} {A B : List Int} (h : keyL hp A = keyL hq B) : hp = hq ∧ A = B := by
  have h2 : i64 hp :: A.map iv = i64 hq :: B.map iv := congrArg Array.toList (Value.agg.inj h)
  simp only [List.cons.injEq, Value.int.injEq, true_and] at h2
  exact ⟨by omega, map_iv_inj h2.2⟩
theorem okW_mk {F : Work} {men : Int} {hp r : Nat} {B : List Int} {w : Way} (h : hp + r = F.heaps.length) (e : w = bestW F men r B) : okW F men (keyL hp B) (valWay w) := by
  intro hq q C h1 h2
  obtain ⟨rfl, rfl⟩ := keyL_inj h2
  obtain rfl : r = q := by omega
  rw [e]
/-- A slice of slices, the inner ones known. -/
abbrev Inner := Option Addr × Nat × Nat
def encO (x : Inner) : List Value := [.slice x.1 x.2.1 x.2.2]
def allRows (F : Work) (xs : List Inner) : Fact := fun V => ∀ h, h < xs.length → rowD (xs.getD h default).1 3 encT (sureF selW F h) V
def Rows (F : Work) (xs : List Inner) : Prop := xs.length ≤ F.heaps.length ∧ ∀ h, h < xs.length → (xs.getD h default).2.1 = (sureF selW F h).length
def waysT (F : Work) (men : Int) (h : Nat) (B : List Int) (rec : List Int → Int) (k : Nat) : List Way := waysW F men h B rec ((sureF selW F h).take k)
section
variable {F : Work} {men : Int} {h : Nat} {B : List Int} {rec : List Int → Int} {k : Nat} {p : T3}
theorem waysT_0 : waysT F men h B rec 0 = [⟨rec B, noneT⟩] := by simp [waysT, waysW]
theorem take_getD {α : Type} [Inhabited α] {l : List α} {k : Nat} (hk : k < l.length) : l.take (k + 1) = l.take k ++ [l.getD k default] := by
  rw [List.take_add_one]
  simp [hk]
theorem waysT_yes (hk : k < (sureF selW F h).length) (hp : (sureF selW F h).getD k default = p) (hf : ¬ ∃ j, j < [p.a, p.b, p.c].length ∧ men ≤ B.getD ([p.a, p.b, p.c].getD j default).toNat 0) :
    waysT F men h B rec k ++ [⟨(F.heaps.getD h default).sods + rec (with_ B p), p⟩] = waysT F men h B rec (k + 1) := by
  have h1 : freeB men B p = true := by
    simp only [freeB, List.any_cons, List.any_nil, Bool.or_false, Bool.not_eq_true', Bool.or_eq_false_iff, decide_eq_false_iff_not]
    exact ⟨fun x => hf ⟨0, by simp, x⟩, fun x => hf ⟨1, by simp, x⟩, fun x => hf ⟨2, by simp, x⟩⟩
  unfold waysT waysW
  rw [take_getD hk, hp]
  simp [h1]
theorem waysT_no (hk : k < (sureF selW F h).length) (hp : (sureF selW F h).getD k default = p) (hf : ∃ j, j < [p.a, p.b, p.c].length ∧ men ≤ B.getD ([p.a, p.b, p.c].getD j default).toNat 0) :
    waysT F men h B rec k = waysT F men h B rec (k + 1) := by
  have h1 : freeB men B p = false := by
    obtain ⟨j, hj, hx⟩ := hf
    simp only [List.length_cons, List.length_nil] at hj
    simp only [freeB, List.any_cons, List.any_nil, Bool.or_false, Bool.not_eq_false', Bool.or_eq_true, decide_eq_true_eq]
    obtain rfl | rfl | rfl : j = 0 ∨ j = 1 ∨ j = 2 := by omega
    · exact .inl hx
    · exact .inr (.inl hx)
    · exact .inr (.inr hx)
  unfold waysT waysW
  rw [take_getD hk, hp]
  simp [h1]
theorem waysT_all : waysT F men h B rec (sureF selW F h).length = waysW F men h B rec (sureF selW F h) := by
  unfold waysT; rw [List.take_length]
theorem waysT_le (hl : F.rain.length ≤ 8) : (waysT F men h B rec k).length ≤ 1001 := by
  have h1 := List.length_filter_le (freeB men B) ((sureF selW F h).take k)
  have h2 := List.length_take_le' k (sureF selW F h)
  have h3 := sureF_le (sel := selW) (F := F) (heap := h) hl
  unfold waysT waysW
  simp only [List.length_cons, List.length_map]
  omega
end
theorem bestW_eq {F : Work} {men : Int} {hp r : Nat} {B : List Int} (h : hp + (r + 1) = F.heaps.length) : wayL (waysW F men hp B (fun C => (bestW F men r C).sods) (sureF selW F hp)) = bestW F men (r + 1) B := by
  obtain rfl : hp = F.heaps.length - (r + 1) := by omega
  rfl
theorem encW_len (w : Way) : (encW w).length = 4 := rfl
theorem take8 {x : Value} {B : List Int} (h : B.length = 8) : ((x :: B.map iv).drop 1).take 8 = B.map iv := by
  simp [List.take_of_length_le, h]
theorem sure_day {sel : Int → Int → Int} {F : Work} {h k : Nat} (hn : F.rain.length ≤ 8) (hk : k < (sureF sel F h).length) : ∀ j, j < 3 → 0 ≤ ((sureF sel F h).getD k default).at j ∧ ((sureF sel F h).getD k default).at j ≤ 7 := by
  intro j hj
  have hm : (sureF sel F h).getD k default ∈ sureF sel F h := by
    have e : (sureF sel F h)[k]? = some ((sureF sel F h).getD k default) := by simp [hk]
    exact List.mem_of_getElem? e
  have := whole_days (List.mem_filter.1 hm).1 j hj
  omega
theorem row_of_box {b : Nat} {x y : Int} {V : View} (h : boxF b 3 [i64 x, i64 y] V) : rowD (some ⟨b, 0, none⟩) 1 (fun x : Int => [i64 x]) [x, y] V :=
  .inr ⟨b, 0, _, 3, (0, 0), rfl, h, fun i j hi hj => by
    obtain rfl : j = 0 := by omega
    simp only [List.length_cons, List.length_nil] at hi
    obtain rfl | rfl : i = 0 ∨ i = 1 := by omega
    · rfl
    · rfl⟩
end Foot4

namespace Go.Proofs.Ytienjlmnakbfmaa
open Go.G Foot4
set_option maxRecDepth 1000000
theorem laid0 : laidOutB Try.prog = true := by kernel_rfl
theorem keyLaw115 : WideMaps.KeyLaw Try.prog 115 := deep_law_gate laid0 (by decide +kernel) (by decide +kernel) (by kernel_rfl) (by kernel_rfl)
theorem kl3 (d : Nat) {x : Int} (h : 0 ≤ x ∧ x ≤ 1000) : Try.prog.keyLits (d + 1) 3 [i64 x] = some [.int .i64 x] := by
  have hw : (Lit.int .i64 x).wf = true := by
    have m1 : IntKind.i64.min = -9223372036854775808 := rfl
    have m2 : IntKind.i64.max = 9223372036854775807 := rfl
    simp only [Lit.wf]
    simp
    omega
  unfold Program.keyLits
  rw [Try.underlying3]
  simp [hw]
theorem key_of (hp : Nat) (B : List Int) (hp1 : hp ≤ 3) (hB : B.length = 8) (hs : Small B 1000) : ∃ l, keyOf Try.prog 115 (keyL hp B) = some l := by
  match B, hB with
  | [a, b, c, d, e, f, g, h], _ =>
    have h1 := Try.underlying115
    unfold keyOf
    rw [h1]
    have h2 : Try.prog.keyType 115 = true := by kernel_rfl
    have h3 : (keyL hp [a, b, c, d, e, f, g, h]).formed Try.prog 115 = true := by kernel_rfl
    have c115 : Try.prog.cellsOf 115 = 9 := by kernel_rfl
    have c107 : Try.prog.cellsOf 107 = 8 := by kernel_rfl
    have c3 : Try.prog.cellsOf 3 = 1 := by kernel_rfl
    have ha := hs 0; have hb := hs 1; have hc := hs 2; have hd := hs 3; have he := hs 4; have hf := hs 5; have hg := hs 6; have hh := hs 7
    simp only [List.getD_cons_zero, List.getD_cons_succ] at ha hb hc hd he hf hg hh
    have e107 : ∀ m, Try.prog.keyLits (m + 2) 107 [i64 a, i64 b, i64 c, i64 d, i64 e, i64 f, i64 g, i64 h] = some [.int .i64 a, .int .i64 b, .int .i64 c, .int .i64 d, .int .i64 e, .int .i64 f, .int .i64 g, .int .i64 h] := by
      intro m
      unfold Program.keyLits
      rw [Try.underlying107]
      simp [c107, c3, List.range, List.range.loop, kl3, ha, hb, hc, hd, he, hf, hg, hh]
    have e115 : Try.prog.keyLits (Try.prog.types.size + 1) 115 (keyL hp [a, b, c, d, e, f, g, h]).cells.toList = some [.int .i64 hp, .int .i64 a, .int .i64 b, .int .i64 c, .int .i64 d, .int .i64 e, .int .i64 f, .int .i64 g, .int .i64 h] := by
      have hsz : Try.prog.types.size + 1 = 167 + 3 := by kernel_rfl
      rw [hsz]
      unfold Program.keyLits
      rw [Try.underlying115]
      simp [c115, c107, c3, Value.cells, kl3 (x := (hp : Int)) _ (by omega), e107, iv]
    rw [e115, h2, h3]
    exact ⟨_, rfl⟩
end Go.Proofs.Ytienjlmnakbfmaa

namespace Go.Proofs.Ytienjlmnakbfmaa
open Go.G Foot4
set_option maxRecDepth 1000000
attribute [local irreducible] G.ParO G.Fin
theorem mk115 {W : World} {n : Nat} {L : Tm} {M : List Res} {R : List Fact} {o : Oper} {x y : Operand} {hp : Nat} {B : List Int} (ho : o.op = .build 115 #[(0, x), (1, y)]) (hx : ev L x = some (i64 ((hp : Int) + 1))) (hy : ev L y = some (.agg (B.map iv).toArray)) (hB : B.length = 8) : OpQ Try.prog W n L M R o (keyL (hp + 1) B) := by
  have hc : CatC [i64 ((hp : Int) + 1), .agg (B.map iv).toArray] (i64 ((hp : Int) + 1) :: (B.map iv ++ [])) := inferInstance
  refine v_cast (v_bS (ps := [(0, x), (1, y)]) (vs := [i64 ((hp : Int) + 1), .agg (B.map iv).toArray]) ho Try.underlying115 inf115 plt115 rfl ?_ rfl ?_ ?_) (by simp [keyL])
  · show evs L [x, y] = _
    simp only [evs, hx, hy]
  · refine ⟨rfl, ?_, trivial⟩
    have : (Value.agg (B.map iv).toArray).cells.size = 8 := by simp [Value.cells, hB]
    rw [this]; rfl
  · simp [hB]; rfl
theorem hab_of {a b c : Int} (h : ∀ j, j < 3 → 0 ≤ (⟨a, b, c⟩ : T3).at j ∧ (⟨a, b, c⟩ : T3).at j ≤ 7) : ∀ j, j < [a, b, c].length → 0 ≤ [a, b, c].getD j default ∧ [a, b, c].getD j default ≤ 7 := by
  intro j hj
  simp only [List.length_cons, List.length_nil] at hj
  obtain rfl | rfl | rfl : j = 0 ∨ j = 1 ∨ j = 2 := by omega
  · exact h 0 (by omega)
  · exact h 1 (by omega)
  · exact h 2 (by omega)
theorem total2_v (b : Nat) (x y : Int) (hx : -10000 ≤ x ∧ x ≤ 10000) (hy : -10000 ≤ y ∧ y ≤ 10000) : FnV Try.prog 98 [.slice (some ⟨b, 0, none⟩) 2 2] [boxF b 3 [i64 x, i64 y]] (i64 (x + y)) := by
  have h := total_v [x, y] (some ⟨b, 0, none⟩) 2 (by simp) (fun k => by
    match k with
    | 0 => exact hx
    | 1 => exact hy
    | k + 2 => show -10000 ≤ (0 : Int) ∧ (0 : Int) ≤ 10000; omega)
  have e : sumTo [x, y] [x, y].length = x + y := by simp [sumTo]
  rw [e] at h
  exact h.pre (fun V hV φ hφ => by
    have : φ = rowD (some ⟨b, 0, none⟩) 1 (fun x : Int => [i64 x]) [x, y] := by simpa using hφ
    subst this
    exact row_of_box (hV _ (by simp)))
set_option maxHeartbeats 4000000 in
theorem best1_0 (F : Work) (ro ho : Option Addr) (rc hc : Nat) (fb : Nat) (men : Int) (hg : GoodF F) (b1 b2 b3 b4 b5 b6 mb : Nat) (sa : Option Addr) (sc : Nat) (xs : List Inner) (hxl : xs.length = F.heaps.length) (hR : Foot4.Rows F xs) (hp : Nat) (hpr : hp + 0 = F.heaps.length) (B : List Int) (hB : B.length = 8) (hs : Small B (3 * hp)) : FnM Try.prog 96 [keyL hp B, pt b1 0, pt b2 0, pt b3 0, pt b4 0, pt b5 0, pt b6 0] (memo Try.prog 115 (okW F men) mb) [boxF b1 81 [pt fb 0], boxF b2 141 [.map (some mb)], boxF b3 112 [.func (.func 96) #[] #[pt b1 0, pt b2 0, pt b3 0, pt b4 0, pt b5 0, pt b6 0]], boxF b4 27 [i64 (-1), i64 (-1), i64 (-1)], boxF b5 140 [.slice sa xs.length sc], boxF b6 3 [i64 men], rowD sa 1 encO xs, allRows F xs, boxF fb 126 (cellsF F ro rc ho hc), rowD ro 2 encS F.rain, rowD ho 3 encH F.heaps] (fun u => u = valWay (bestW F men 0 B)) := by
  refine FnM.intro Try.call96 Try.func96 rfl Try.ntmps96 rfl ?_
  intro W M Rf
  refine r_seq ?_
  refine r_region ?_
  refine o_boxA rfl rfl rfl rfl rfl (fun b7 => ?_)
  refine o_alloc rfl inf117 rfl rfl rfl rfl rfl (fun b8 => ?_)
  refine o_nil ?_
  repeat (first | with_reducible refine r_then ?_ | with_reducible refine r_in_normal ?_ | with_reducible refine r_sc_normal ?_)
  refine r_seq ?_
  refine r_seq ?_
  refine Imp.sealB b7 ?_
  refine r_region_q mixed (by kernel_rfl) ?_
  first | refine q_q _ rfl rfl rfl (v_fieldAddr rfl Try.underlying115 inf3 rfl rfl rfl rfl) ?_ | refine q_q _ rfl rfl rfl (v_fieldAddrE rfl Try.underlying115 inf3 rfl rfl rfl rfl) ?_
  first | refine q_q _ rfl rfl rfl (v_ld1 rfl Try.underlying3 rfl rfl rfl) ?_ | refine q_q _ rfl rfl rfl (v_lf1 rfl Try.underlying3 rfl rfl rfl) ?_ | refine q_q _ rfl rfl rfl (v_loadE1 rfl Try.underlying3 rfl rfl (by omega) rfl rfl) ?_
  first | refine q_q _ rfl rfl rfl (v_ld1 rfl Try.underlying81 rfl rfl rfl) ?_ | refine q_q _ rfl rfl rfl (v_lf1 rfl Try.underlying81 rfl rfl rfl) ?_ | refine q_q _ rfl rfl rfl (v_loadE1 rfl Try.underlying81 rfl rfl (by omega) rfl rfl) ?_
  refine q_q _ rfl rfl rfl (v_nilCheck rfl rfl) ?_
  first | refine q_q _ rfl rfl rfl (v_fieldAddr rfl Try.underlying126 inf26 rfl rfl rfl rfl) ?_ | refine q_q _ rfl rfl rfl (v_fieldAddrE rfl Try.underlying126 inf26 rfl rfl rfl rfl) ?_
  first | refine q_q _ rfl rfl rfl (v_fieldAddr rfl Try.underlying26 inf24 rfl rfl rfl rfl) ?_ | refine q_q _ rfl rfl rfl (v_fieldAddrE rfl Try.underlying26 inf24 rfl rfl rfl rfl) ?_
  first | refine q_q _ rfl rfl rfl (v_ld1 rfl Try.underlying24 rfl rfl rfl) ?_ | refine q_q _ rfl rfl rfl (v_lf1 rfl Try.underlying24 rfl rfl rfl) ?_ | refine q_q _ rfl rfl rfl (v_loadE1 rfl Try.underlying24 rfl rfl (by omega) rfl rfl) ?_
  refine q_q _ rfl rfl rfl (v_len rfl rfl Try.underlying24 rfl) ?_
  refine q_q _ rfl rfl rfl (v_eql rfl rfl rfl) ?_
  refine q_nil ?_
  repeat (first | with_reducible refine r_then ?_ | with_reducible refine r_in_normal ?_ | with_reducible refine r_sc_normal ?_)
  first | refine r_condd rfl (fun hc24 => ?_) (fun hc24 => ?_) | refine r_cond rfl (fun hc24 => ?_) (fun hc24 => ?_)
  ·
    first
    | (exfalso; revert hc24; decide)
    | (exfalso; omega)
    | skip
      refine r_seq ?_
      refine r_region ?_
      refine o_q _ rfl rfl rfl (v_bS0 rfl Try.underlying117 inf117 plt117 rfl rfl) ?_
      refine o_st rfl inf117 rfl rfl rfl rfl rfl rfl rfl rfl ?_
      refine o_nil ?_
      repeat (first | with_reducible refine r_then ?_ | with_reducible refine r_in_normal ?_ | with_reducible refine r_sc_normal ?_)
      refine r_ret ?_
      repeat (first | with_reducible refine r_then_ret ?_ | with_reducible refine r_in_ret ?_ | with_reducible refine r_sc_ret ?_)
      exact r_retm (Rd.one rfl (RdI.cellW Try.underlying117 rfl inf117 rfl rfl)) (by rfl) SelMC.sel SubRC.sub
  ·
    first
    | (exfalso; revert hc24; decide)
    | (exfalso; omega)
    | skip
      (exfalso; omega)
set_option maxHeartbeats 4000000 in
theorem best1_s (F : Work) (ro ho : Option Addr) (rc hc : Nat) (fb : Nat) (men : Int) (hg : GoodF F) (b1 b2 b3 b4 b5 b6 mb : Nat) (sa : Option Addr) (sc : Nat) (xs : List Inner) (hxl : xs.length = F.heaps.length) (hR : Foot4.Rows F xs) (r : Nat) (ih : ∀ (hp : Nat) (C : List Int), hp + r = F.heaps.length → C.length = 8 → Small C (3 * hp) → FnM Try.prog 96 [keyL hp C, pt b1 0, pt b2 0, pt b3 0, pt b4 0, pt b5 0, pt b6 0] (memo Try.prog 115 (okW F men) mb) [boxF b1 81 [pt fb 0], boxF b2 141 [.map (some mb)], boxF b3 112 [.func (.func 96) #[] #[pt b1 0, pt b2 0, pt b3 0, pt b4 0, pt b5 0, pt b6 0]], boxF b4 27 [i64 (-1), i64 (-1), i64 (-1)], boxF b5 140 [.slice sa xs.length sc], boxF b6 3 [i64 men], rowD sa 1 encO xs, allRows F xs, boxF fb 126 (cellsF F ro rc ho hc), rowD ro 2 encS F.rain, rowD ho 3 encH F.heaps] (fun u => u = valWay (bestW F men r C))) (hp : Nat) (hpr : hp + (r + 1) = F.heaps.length) (B : List Int) (hB : B.length = 8) (hs : Small B (3 * hp)) : FnM Try.prog 96 [keyL hp B, pt b1 0, pt b2 0, pt b3 0, pt b4 0, pt b5 0, pt b6 0] (memo Try.prog 115 (okW F men) mb) [boxF b1 81 [pt fb 0], boxF b2 141 [.map (some mb)], boxF b3 112 [.func (.func 96) #[] #[pt b1 0, pt b2 0, pt b3 0, pt b4 0, pt b5 0, pt b6 0]], boxF b4 27 [i64 (-1), i64 (-1), i64 (-1)], boxF b5 140 [.slice sa xs.length sc], boxF b6 3 [i64 men], rowD sa 1 encO xs, allRows F xs, boxF fb 126 (cellsF F ro rc ho hc), rowD ro 2 encS F.rain, rowD ho 3 encH F.heaps] (fun u => u = valWay (bestW F men (r + 1) B)) := by
  have hkl0 := key_of hp B (by have := hg.2.2.1; omega) hB (fun i => by have := hs i; have := hg.2.2.1; omega)
  obtain ⟨kl, hkl⟩ := hkl0
  have hb := hg.bnd
  have hl3 := hg.2.2.1
  refine FnM.intro Try.call96 Try.func96 rfl Try.ntmps96 rfl ?_
  intro W M Rf
  refine r_seq ?_
  refine r_region ?_
  refine o_boxA rfl rfl rfl rfl rfl (fun b7 => ?_)
  refine o_alloc rfl inf117 rfl rfl rfl rfl rfl (fun b8 => ?_)
  refine o_nil ?_
  repeat (first | with_reducible refine r_then ?_ | with_reducible refine r_in_normal ?_ | with_reducible refine r_sc_normal ?_)
  refine r_seq ?_
  refine r_seq ?_
  refine Imp.sealB b7 ?_
  refine r_region_q mixed (by kernel_rfl) ?_
  first | refine q_q _ rfl rfl rfl (v_fieldAddr rfl Try.underlying115 inf3 rfl rfl rfl rfl) ?_ | refine q_q _ rfl rfl rfl (v_fieldAddrE rfl Try.underlying115 inf3 rfl rfl rfl rfl) ?_
  first | refine q_q _ rfl rfl rfl (v_ld1 rfl Try.underlying3 rfl rfl rfl) ?_ | refine q_q _ rfl rfl rfl (v_lf1 rfl Try.underlying3 rfl rfl rfl) ?_ | refine q_q _ rfl rfl rfl (v_loadE1 rfl Try.underlying3 rfl rfl (by omega) rfl rfl) ?_
  first | refine q_q _ rfl rfl rfl (v_ld1 rfl Try.underlying81 rfl rfl rfl) ?_ | refine q_q _ rfl rfl rfl (v_lf1 rfl Try.underlying81 rfl rfl rfl) ?_ | refine q_q _ rfl rfl rfl (v_loadE1 rfl Try.underlying81 rfl rfl (by omega) rfl rfl) ?_
  refine q_q _ rfl rfl rfl (v_nilCheck rfl rfl) ?_
  first | refine q_q _ rfl rfl rfl (v_fieldAddr rfl Try.underlying126 inf26 rfl rfl rfl rfl) ?_ | refine q_q _ rfl rfl rfl (v_fieldAddrE rfl Try.underlying126 inf26 rfl rfl rfl rfl) ?_
  first | refine q_q _ rfl rfl rfl (v_fieldAddr rfl Try.underlying26 inf24 rfl rfl rfl rfl) ?_ | refine q_q _ rfl rfl rfl (v_fieldAddrE rfl Try.underlying26 inf24 rfl rfl rfl rfl) ?_
  first | refine q_q _ rfl rfl rfl (v_ld1 rfl Try.underlying24 rfl rfl rfl) ?_ | refine q_q _ rfl rfl rfl (v_lf1 rfl Try.underlying24 rfl rfl rfl) ?_ | refine q_q _ rfl rfl rfl (v_loadE1 rfl Try.underlying24 rfl rfl (by omega) rfl rfl) ?_
  refine q_q _ rfl rfl rfl (v_len rfl rfl Try.underlying24 rfl) ?_
  refine q_q _ rfl rfl rfl (v_eql rfl rfl rfl) ?_
  refine q_nil ?_
  repeat (first | with_reducible refine r_then ?_ | with_reducible refine r_in_normal ?_ | with_reducible refine r_sc_normal ?_)
  first | refine r_condd rfl (fun hc24 => ?_) (fun hc24 => ?_) | refine r_cond rfl (fun hc24 => ?_) (fun hc24 => ?_)
  ·
    first
    | (exfalso; revert hc24; decide)
    | (exfalso; omega)
    | skip
      (exfalso; omega)
  ·
    first
    | (exfalso; revert hc24; decide)
    | (exfalso; omega)
    | skip
      refine r_skip ?_
      repeat (first | with_reducible refine r_then ?_ | with_reducible refine r_in_normal ?_ | with_reducible refine r_sc_normal ?_)
      refine r_seq ?_
      refine r_seq ?_
      refine r_region ?_
      first | refine o_q _ rfl rfl rfl (v_ld1 rfl Try.underlying141 rfl rfl rfl) ?_ | refine o_q _ rfl rfl rfl (v_lf1 rfl Try.underlying141 rfl rfl rfl) ?_ | refine o_q _ rfl rfl rfl (v_loadE1 rfl Try.underlying141 rfl rfl (by omega) rfl rfl) ?_
      refine o_q _ rfl rfl rfl (v_lfW rfl Try.underlying115 rfl inf115 rfl (by rw [List.length_cons, List.length_map, hB]; rfl)) ?_
      refine o_lookupD (ok := okW F men) (b := mb) (valWay (bestW F men (r + 1) B)) (fun u hu => hu hp (r + 1) B hpr rfl) keyLaw115 hkl rfl Try.underlying141 inf117 rfl rfl rfl rfl rfl rfl ?_ ?_
      all_goals
        refine o_q _ rfl rfl rfl (v_move rfl rfl) ?_
        refine o_q _ rfl rfl rfl (v_extract rfl rfl rfl) ?_
        refine o_q _ rfl rfl rfl (v_extract rfl rfl rfl) ?_
        refine o_alloc rfl inf117 rfl rfl rfl rfl rfl (fun b9 => ?_)
        refine o_st rfl inf117 rfl rfl rfl rfl rfl rfl rfl rfl ?_
        refine o_q _ rfl rfl rfl (v_assign rfl rfl) ?_
        refine o_nil ?_
        repeat (first | with_reducible refine r_then ?_ | with_reducible refine r_in_normal ?_ | with_reducible refine r_sc_normal ?_)
        refine r_seq ?_
        refine r_region ?_
        refine o_q _ rfl rfl rfl (v_move rfl rfl) ?_
        refine o_nil ?_
        repeat (first | with_reducible refine r_then ?_ | with_reducible refine r_in_normal ?_ | with_reducible refine r_sc_normal ?_)
        first | refine r_condd rfl (fun hc32 => ?_) (fun hc32 => ?_) | refine r_cond rfl (fun hc32 => ?_) (fun hc32 => ?_)
        ·
          first
          | (exfalso; revert hc32; decide)
          | (exfalso; omega)
          | skip
            refine r_seq ?_
            refine r_region ?_
            first | refine o_q _ rfl rfl rfl (v_ldW rfl Try.underlying117 rfl inf117 rfl rfl) ?_ | refine o_q _ rfl rfl rfl (v_lfW rfl Try.underlying117 rfl inf117 rfl rfl) ?_ | refine o_q _ rfl rfl rfl (v_lfN rfl Try.underlying117 rfl inf117 rfl rfl rfl) ?_ | refine o_q _ rfl rfl rfl (v_ldN rfl Try.underlying117 rfl inf117 rfl rfl rfl) ?_ | refine o_q _ rfl rfl rfl (v_loadEN rfl Try.underlying117 rfl inf117 rfl (by omega) rfl rfl rfl) ?_
            refine o_st rfl inf117 rfl rfl rfl rfl rfl rfl rfl rfl ?_
            refine o_nil ?_
            repeat (first | with_reducible refine r_then ?_ | with_reducible refine r_in_normal ?_ | with_reducible refine r_sc_normal ?_)
            refine r_ret ?_
            repeat (first | with_reducible refine r_then_ret ?_ | with_reducible refine r_in_ret ?_ | with_reducible refine r_sc_ret ?_)
            first
            | exact r_retm (Rd.one rfl (RdI.cellW Try.underlying117 rfl inf117 rfl rfl)) (by rfl) SelMC.sel SubRC.sub
            | exact r_retm (Rd.one rfl (RdI.cellW Try.underlying117 rfl inf117 rfl rfl)) (by rw [waysT_all]; exact congrArg valWay (bestW_eq hpr)) SelMC.sel SubRC.sub
        ·
          first
          | (exfalso; revert hc32; decide)
          | (exfalso; omega)
          | skip
            refine r_skip ?_
            repeat (first | with_reducible refine r_then ?_ | with_reducible refine r_in_normal ?_ | with_reducible refine r_sc_normal ?_)
            refine r_seq ?_
            refine r_par' 10 mixed (by kernel_rfl) (by rfl) ?_
            first | refine p_q _ rfl rfl rfl (fun _ _ => v_ld1 rfl Try.underlying112 rfl rfl rfl) ?_ | refine p_q _ rfl rfl rfl (fun _ _ => v_lf1 rfl Try.underlying112 rfl rfl rfl) ?_ | refine p_q _ rfl rfl rfl (fun _ _ => v_loadE1 rfl Try.underlying112 rfl rfl (by omega) rfl rfl) ?_
            first | refine p_q _ rfl rfl rfl (fun _ _ => v_fieldAddr rfl Try.underlying115 inf3 rfl rfl rfl rfl) ?_ | refine p_q _ rfl rfl rfl (fun _ _ => v_fieldAddrE rfl Try.underlying115 inf3 rfl rfl rfl rfl) ?_
            first | refine p_q _ rfl rfl rfl (fun _ _ => v_ld1 rfl Try.underlying3 rfl rfl rfl) ?_ | refine p_q _ rfl rfl rfl (fun _ _ => v_lf1 rfl Try.underlying3 rfl rfl rfl) ?_ | refine p_q _ rfl rfl rfl (fun _ _ => v_loadE1 rfl Try.underlying3 rfl rfl (by omega) rfl rfl) ?_
            refine p_q _ rfl rfl rfl (fun _ _ => v_add rfl rfl rfl (by omega)) ?_
            first | refine p_q _ rfl rfl rfl (fun _ _ => v_fieldAddr rfl Try.underlying115 inf107 rfl rfl rfl rfl) ?_ | refine p_q _ rfl rfl rfl (fun _ _ => v_fieldAddrE rfl Try.underlying115 inf107 rfl rfl rfl rfl) ?_
            refine p_q _ rfl rfl rfl (fun _ _ => v_lfN (us := B.map iv) rfl Try.underlying107 rfl inf107 rfl (take8 hB) (by rw [List.length_map, hB]; rfl)) ?_
            refine p_q _ rfl rfl rfl (fun _ _ => mk115 rfl rfl rfl hB) ?_
            refine p_q _ rfl rfl rfl (fun _ _ => OpQ.fnm (ih (hp + 1) B (by omega) hB (fun i => by have := hs i; omega)) rfl [] [pt b1 0, pt b2 0, pt b3 0, pt b4 0, pt b5 0, pt b6 0] rfl rfl rfl SubRC.sub) ?_
            refine p_q _ rfl rfl rfl (fun _ _ => v_field rfl Try.underlying117 Try.underlying3 inf3 rfl rfl rfl rfl) ?_
            first | refine p_q _ rfl rfl rfl (fun _ _ => v_ldW rfl Try.underlying27 rfl inf27 rfl rfl) ?_ | refine p_q _ rfl rfl rfl (fun _ _ => v_lfW rfl Try.underlying27 rfl inf27 rfl rfl) ?_ | refine p_q _ rfl rfl rfl (fun _ _ => v_lfN rfl Try.underlying27 rfl inf27 rfl rfl rfl) ?_ | refine p_q _ rfl rfl rfl (fun _ _ => v_ldN rfl Try.underlying27 rfl inf27 rfl rfl rfl) ?_ | refine p_q _ rfl rfl rfl (fun _ _ => v_loadEN rfl Try.underlying27 rfl inf27 rfl (by omega) rfl rfl rfl) ?_
            refine p_nil2 (by simp only [List.nil_append, List.cons_append]; rfl) ?_
            refine f_q rfl ?_
            refine f_q rfl ?_
            refine f_q rfl ?_
            refine f_q rfl ?_
            refine f_q rfl ?_
            refine f_q rfl ?_
            refine f_q rfl ?_
            refine f_q rfl ?_
            refine f_q rfl ?_
            refine f_q rfl ?_
            refine f_nil ?_
            refine o_q _ rfl rfl rfl (v_bS rfl Try.underlying117 inf117 plt117 rfl rfl rfl (by repeat (first | exact trivial | refine ⟨rfl, ?_⟩)) (by rfl)) ?_
            refine o_lit rfl Try.underlying143 inf117 rfl rfl rfl rfl rfl rfl rfl rfl (by repeat (first | exact trivial | refine ⟨rfl, ?_⟩)) (by rfl) (fun b45 => ?_)
            refine o_q _ rfl rfl rfl (v_assign rfl rfl) ?_
            refine o_nil ?_
            repeat (first | with_reducible refine r_then ?_ | with_reducible refine r_in_normal ?_ | with_reducible refine r_sc_normal ?_)
            refine r_seq ?_
            refine r_seq ?_
            obtain ⟨oa, ln, cp, hxe⟩ : ∃ oa ln cp, xs.getD hp default = (oa, ln, cp) := ⟨_, _, _, rfl⟩
            have hln : ln = (sureF selW F hp).length := by have := hR.2 hp (by omega); rw [hxe] at this; exact this
            subst hln
            refine Imp.derive (ψ := rowD oa 3 encT (sureF selW F hp)) ?_ (fun V hV => by have := hV (allRows F xs) InR.mem hp (by omega); rw [hxe] at this; exact this)
            refine Imp.ownBox (enc := encW) (sz := 4) b45 [⟨(bestW F men r B).sods, noneT⟩] rfl rfl (by simp [maxLen]) ?_
            refine r_region ?_
            first | refine o_q _ rfl rfl rfl (v_ld1 rfl Try.underlying140 rfl rfl rfl) ?_ | refine o_q _ rfl rfl rfl (v_lf1 rfl Try.underlying140 rfl rfl rfl) ?_ | refine o_q _ rfl rfl rfl (v_loadE1 rfl Try.underlying140 rfl rfl (by omega) rfl rfl) ?_
            first | refine o_q _ rfl rfl rfl (v_fieldAddr rfl Try.underlying115 inf3 rfl rfl rfl rfl) ?_ | refine o_q _ rfl rfl rfl (v_fieldAddrE rfl Try.underlying115 inf3 rfl rfl rfl rfl) ?_
            first | refine o_q _ rfl rfl rfl (v_ld1 rfl Try.underlying3 rfl rfl rfl) ?_ | refine o_q _ rfl rfl rfl (v_lf1 rfl Try.underlying3 rfl rfl rfl) ?_ | refine o_q _ rfl rfl rfl (v_loadE1 rfl Try.underlying3 rfl rfl (by omega) rfl rfl) ?_
            first | refine o_q _ rfl rfl rfl (v_indexAddrSn rfl Try.underlying140 inf40 rfl rfl rfl (by omega) rfl) ?_ | refine o_q _ rfl rfl rfl (v_indexAddrS rfl Try.underlying140 inf40 rfl rfl rfl (by omega) (by omega) rfl) ?_
            refine o_q _ rfl rfl rfl (v_loadE1 (v := .slice oa (sureF selW F hp).length cp) rfl Try.underlying40 rfl rfl (by omega) rfl (by rw [hxe]; rfl)) ?_
            refine o_q _ rfl rfl rfl (v_len rfl rfl Try.underlying40 rfl) ?_
            refine o_q _ rfl rfl rfl (v_move rfl rfl) ?_
            refine o_nil ?_
            repeat (first | with_reducible refine r_then ?_ | with_reducible refine r_in_normal ?_ | with_reducible refine r_sc_normal ?_)
            refine r_block ?_
            refine r_loop (ι := Nat × Value) (fun gh => gh.1 ≤ (sureF selW F hp).length) (fun gh => [(1, pt b1 0), (2, pt b2 0), (3, pt b3 0), (4, pt b4 0), (5, pt b5 0), (6, pt b6 0), (7, pt b7 0), (8, pt b8 0), (11, gh.2), (50, .slice oa (sureF selW F hp).length cp), (51, i64 (sureF selW F hp).length), (52, i64 gh.1)]) (fun gh => ownL gh.2 117 4 encW (waysT F men hp B (fun C => (bestW F men r C).sods) gh.1) :: bx b8 117 [i64 0, i64 0, i64 0, i64 0] :: memo Try.prog 115 (okW F men) mb :: M) (fun gh => rowD oa 3 encT (sureF selW F hp) :: (boxF b7 115 (i64 hp :: B.map iv) :: ([boxF b1 81 [pt fb 0], boxF b2 141 [.map (some mb)], boxF b3 112 [.func (.func 96) #[] #[pt b1 0, pt b2 0, pt b3 0, pt b4 0, pt b5 0, pt b6 0]], boxF b4 27 [i64 (-1), i64 (-1), i64 (-1)], boxF b5 140 [.slice sa xs.length sc], boxF b6 3 [i64 men], rowD sa 1 encO xs, allRows F xs, boxF fb 126 (cellsF F ro rc ho hc), rowD ro 2 encS F.rain, rowD ho 3 encH F.heaps] ++ Rf))) (fun gh => (sureF selW F hp).length - gh.1) (0, .slice (some ⟨b45, 0, none⟩) 1 1) ?_ ?_ ?_
            ·
              refine Imp.own_to (.slice (some ⟨b45, 0, none⟩) 1 1) (waysT F men hp B (fun C => (bestW F men r C).sods) 0) waysT_0.symm ?_
              refine Imp.box_to b8 [i64 0, i64 0, i64 0, i64 0] rfl ?_
              exact r_here (by repeat (first | exact FSub.nil | refine FSub.cons rfl ?_)) SelMC.sel SubRC.sub
            ·
              exact Nat.zero_le _
            ·
              rintro ⟨k, v⟩ hI0
              dsimp only at hI0
              dsimp only
              have hsl := sureF_le (sel := selW) (F := F) (heap := hp) hb.len
              obtain ⟨a, b, c, hp_⟩ : ∃ a b c, (sureF selW F hp).getD k default = ⟨a, b, c⟩ := ⟨_, _, _, rfl⟩
              have hwk := waysT_le (F := F) (men := men) (h := hp) (B := B) (rec := (fun C => (bestW F men r C).sods)) (k := k) hb.len
              have hpl0 := fun (hk : k < (sureF selW F hp).length) => sure_day (sel := selW) (F := F) (h := hp) hb.len hk
              refine r_seq ?_
              refine r_region ?_
              refine o_q _ rfl rfl rfl (v_lss rfl rfl rfl) ?_
              refine o_nil ?_
              repeat (first | with_reducible refine r_then ?_ | with_reducible refine r_in_normal ?_ | with_reducible refine r_sc_normal ?_)
              refine r_seq ?_
              first | refine r_condd rfl (fun hc53 => ?_) (fun hc53 => ?_) | refine r_cond rfl (fun hc53 => ?_) (fun hc53 => ?_)
              ·
                first
                | (exfalso; revert hc53; decide)
                | (exfalso; omega)
                | skip
                  refine r_skip ?_
                  repeat (first | with_reducible refine r_then ?_ | with_reducible refine r_in_normal ?_ | with_reducible refine r_sc_normal ?_)
                  refine r_seq ?_
                  refine r_block ?_
                  refine r_seq ?_
                  refine r_region ?_
                  first | refine o_q _ rfl rfl rfl (v_indexAddrSn rfl Try.underlying40 inf27 rfl rfl rfl (by omega) rfl) ?_ | refine o_q _ rfl rfl rfl (v_indexAddrS rfl Try.underlying40 inf27 rfl rfl rfl (by omega) (by omega) rfl) ?_
                  first | refine o_q _ rfl rfl rfl (v_ldW rfl Try.underlying27 rfl inf27 rfl rfl) ?_ | refine o_q _ rfl rfl rfl (v_lfW rfl Try.underlying27 rfl inf27 rfl rfl) ?_ | refine o_q _ rfl rfl rfl (v_lfN rfl Try.underlying27 rfl inf27 rfl rfl rfl) ?_ | refine o_q _ rfl rfl rfl (v_ldN rfl Try.underlying27 rfl inf27 rfl rfl rfl) ?_ | refine o_q _ rfl rfl rfl (v_loadEN rfl Try.underlying27 rfl inf27 rfl (by omega) rfl rfl rfl) ?_
                  simp only [hp_]
                  refine o_alloc rfl inf27 rfl rfl rfl rfl rfl (fun b13 => ?_)
                  refine o_st rfl inf27 rfl rfl rfl rfl rfl rfl rfl rfl ?_
                  refine o_nil ?_
                  repeat (first | with_reducible refine r_then ?_ | with_reducible refine r_in_normal ?_ | with_reducible refine r_sc_normal ?_)
                  refine r_seq ?_
                  refine r_seq ?_
                  have hpl : ∀ j, j < 3 → 0 ≤ (⟨a, b, c⟩ : T3).at j ∧ (⟨a, b, c⟩ : T3).at j ≤ 7 := hp_ ▸ hpl0 (by omega)
                  have hab : ∀ j, j < [a, b, c].length → 0 ≤ [a, b, c].getD j default ∧ [a, b, c].getD j default ≤ 7 := hab_of hpl
                  refine Imp.sealB b13 ?_
                  refine Imp.rowB (b := b13) i64 [a, b, c] rfl ?_
                  refine r_region ?_
                  refine o_q _ rfl rfl rfl (v_sliceA rfl Try.underlying27 inf3 rfl) ?_
                  refine o_q _ rfl rfl rfl (v_makeFunc rfl rfl rfl) ?_
                  first | refine o_q _ rfl rfl rfl (v_true (OpQ.fn (ints_c (fun d : Int => men ≤ B.getD d.toNat 0) [a, b, c] (some ⟨b13, 0, none⟩) 3 97 [pt b7 0, pt b6 0] [boxF b7 115 (i64 hp :: B.map iv), boxF b6 3 [i64 men]] (by simp) (fun j hj => busyAt_v B hp men _ b7 b6 hB (hab j hj))) rfl rfl SubRC.sub) (by omega)) ?_ | refine o_q _ rfl rfl rfl (v_false (OpQ.fn (ints_c (fun d : Int => men ≤ B.getD d.toNat 0) [a, b, c] (some ⟨b13, 0, none⟩) 3 97 [pt b7 0, pt b6 0] [boxF b7 115 (i64 hp :: B.map iv), boxF b6 3 [i64 men]] (by simp) (fun j hj => busyAt_v B hp men _ b7 b6 hB (hab j hj))) rfl rfl SubRC.sub) (by omega)) ?_ | refine o_test rfl rfl rfl (OpQ.fn (ints_c (fun d : Int => men ≤ B.getD d.toNat 0) [a, b, c] (some ⟨b13, 0, none⟩) 3 97 [pt b7 0, pt b6 0] [boxF b7 115 (i64 hp :: B.map iv), boxF b6 3 [i64 men]] (by simp) (fun j hj => busyAt_v B hp men _ b7 b6 hB (hab j hj))) rfl rfl SubRC.sub) (fun h58 => ?_) (fun h58 => ?_)
                  all_goals
                    refine o_nil ?_
                    repeat (first | with_reducible refine r_then ?_ | with_reducible refine r_in_normal ?_ | with_reducible refine r_sc_normal ?_)
                    first | refine r_condd rfl (fun hc58 => ?_) (fun hc58 => ?_) | refine r_cond rfl (fun hc58 => ?_) (fun hc58 => ?_)
                    ·
                      first
                      | (exfalso; revert hc58; decide)
                      | (exfalso; omega)
                      | skip
                        refine r_exit ?_
                        repeat (first | with_reducible refine r_then_exit ?_ | with_reducible refine r_sc_exit ?_ | with_reducible refine r_in_here ?_ | (with_reducible refine r_in_past (by decide) ?_) | with_reducible refine r_then ?_ | with_reducible refine r_in_normal ?_ | with_reducible refine r_sc_normal ?_)
                        refine r_region ?_
                        refine o_q _ rfl rfl rfl (v_add rfl rfl rfl (by omega)) ?_
                        refine o_q _ rfl rfl rfl (v_move rfl rfl) ?_
                        refine o_nil ?_
                        repeat (first | with_reducible refine r_then ?_ | with_reducible refine r_in_normal ?_ | with_reducible refine r_sc_normal ?_)
                        first
                        | exact r_next ((k + 1, v86)) (by refine Imp.own_to v86 (waysT F men hp B (fun C => (bestW F men r C).sods) (k + 1)) (waysT_yes (by omega) hp_ (by assumption)) ?_; exact r_here (by repeat (first | exact FSub.nil | refine FSub.cons rfl ?_)) SelMC.sel SubRC.sub) (by first | omega | (show _ + 1 ≤ _; omega)) (by first | omega | (show _ - (_ + 1) < _ - _; omega))
                        | exact r_next ((k + 1, v)) (by refine Imp.own_to v (waysT F men hp B (fun C => (bestW F men r C).sods) (k + 1)) (waysT_no (by omega) hp_ (by assumption)) ?_; exact r_here (by repeat (first | exact FSub.nil | refine FSub.cons rfl ?_)) SelMC.sel SubRC.sub) (by first | omega | (show _ + 1 ≤ _; omega)) (by first | omega | (show _ - (_ + 1) < _ - _; omega))
                    ·
                      first
                      | (exfalso; revert hc58; decide)
                      | (exfalso; omega)
                      | skip
                        refine r_skip ?_
                        repeat (first | with_reducible refine r_then ?_ | with_reducible refine r_in_normal ?_ | with_reducible refine r_sc_normal ?_)
                        have hsd : -10000 ≤ (F.heaps.getD hp default).sods ∧ (F.heaps.getD hp default).sods ≤ 10000 := by have := (hg.2.2.2.2.2 hp (by omega)).2; omega
                        have hrc : -10000 ≤ (bestW F men r (with_ B ⟨a, b, c⟩)).sods ∧ (bestW F men r (with_ B ⟨a, b, c⟩)).sods ≤ 10000 := by have := bestW_bd hg men r (with_ B ⟨a, b, c⟩) (by omega); omega
                        refine r_par' 27 mixed (by kernel_rfl) (by rfl) ?_
                        refine p_q _ rfl rfl rfl (fun _ _ => v_move rfl rfl) ?_
                        first | refine p_q _ rfl rfl rfl (fun _ _ => v_ld1 rfl Try.underlying81 rfl rfl rfl) ?_ | refine p_q _ rfl rfl rfl (fun _ _ => v_lf1 rfl Try.underlying81 rfl rfl rfl) ?_ | refine p_q _ rfl rfl rfl (fun _ _ => v_loadE1 rfl Try.underlying81 rfl rfl (by omega) rfl rfl) ?_
                        refine p_q _ rfl rfl rfl (fun _ _ => v_nilCheck rfl rfl) ?_
                        first | refine p_q _ rfl rfl rfl (fun _ _ => v_fieldAddr rfl Try.underlying126 inf26 rfl rfl rfl rfl) ?_ | refine p_q _ rfl rfl rfl (fun _ _ => v_fieldAddrE rfl Try.underlying126 inf26 rfl rfl rfl rfl) ?_
                        first | refine p_q _ rfl rfl rfl (fun _ _ => v_fieldAddr rfl Try.underlying26 inf24 rfl rfl rfl rfl) ?_ | refine p_q _ rfl rfl rfl (fun _ _ => v_fieldAddrE rfl Try.underlying26 inf24 rfl rfl rfl rfl) ?_
                        first | refine p_q _ rfl rfl rfl (fun _ _ => v_ld1 rfl Try.underlying24 rfl rfl rfl) ?_ | refine p_q _ rfl rfl rfl (fun _ _ => v_lf1 rfl Try.underlying24 rfl rfl rfl) ?_ | refine p_q _ rfl rfl rfl (fun _ _ => v_loadE1 rfl Try.underlying24 rfl rfl (by omega) rfl rfl) ?_
                        first | refine p_q _ rfl rfl rfl (fun _ _ => v_fieldAddr rfl Try.underlying115 inf3 rfl rfl rfl rfl) ?_ | refine p_q _ rfl rfl rfl (fun _ _ => v_fieldAddrE rfl Try.underlying115 inf3 rfl rfl rfl rfl) ?_
                        first | refine p_q _ rfl rfl rfl (fun _ _ => v_ld1 rfl Try.underlying3 rfl rfl rfl) ?_ | refine p_q _ rfl rfl rfl (fun _ _ => v_lf1 rfl Try.underlying3 rfl rfl rfl) ?_ | refine p_q _ rfl rfl rfl (fun _ _ => v_loadE1 rfl Try.underlying3 rfl rfl (by omega) rfl rfl) ?_
                        first | refine p_q _ rfl rfl rfl (fun _ _ => v_indexAddrSn rfl Try.underlying24 inf73 rfl rfl rfl (by omega) rfl) ?_ | refine p_q _ rfl rfl rfl (fun _ _ => v_indexAddrS rfl Try.underlying24 inf73 rfl rfl rfl (by omega) (by omega) rfl) ?_
                        first | refine p_q _ rfl rfl rfl (fun _ _ => v_fieldAddr rfl Try.underlying73 inf3 rfl rfl rfl rfl) ?_ | refine p_q _ rfl rfl rfl (fun _ _ => v_fieldAddrE rfl Try.underlying73 inf3 rfl rfl rfl rfl) ?_
                        first | refine p_q _ rfl rfl rfl (fun _ _ => v_ld1 rfl Try.underlying3 rfl rfl rfl) ?_ | refine p_q _ rfl rfl rfl (fun _ _ => v_lf1 rfl Try.underlying3 rfl rfl rfl) ?_ | refine p_q _ rfl rfl rfl (fun _ _ => v_loadE1 rfl Try.underlying3 rfl rfl (by omega) rfl rfl) ?_
                        first | refine p_q _ rfl rfl rfl (fun _ _ => v_ld1 rfl Try.underlying112 rfl rfl rfl) ?_ | refine p_q _ rfl rfl rfl (fun _ _ => v_lf1 rfl Try.underlying112 rfl rfl rfl) ?_ | refine p_q _ rfl rfl rfl (fun _ _ => v_loadE1 rfl Try.underlying112 rfl rfl (by omega) rfl rfl) ?_
                        first | refine p_q _ rfl rfl rfl (fun _ _ => v_fieldAddr rfl Try.underlying115 inf3 rfl rfl rfl rfl) ?_ | refine p_q _ rfl rfl rfl (fun _ _ => v_fieldAddrE rfl Try.underlying115 inf3 rfl rfl rfl rfl) ?_
                        first | refine p_q _ rfl rfl rfl (fun _ _ => v_ld1 rfl Try.underlying3 rfl rfl rfl) ?_ | refine p_q _ rfl rfl rfl (fun _ _ => v_lf1 rfl Try.underlying3 rfl rfl rfl) ?_ | refine p_q _ rfl rfl rfl (fun _ _ => v_loadE1 rfl Try.underlying3 rfl rfl (by omega) rfl rfl) ?_
                        refine p_q _ rfl rfl rfl (fun _ _ => v_add rfl rfl rfl (by omega)) ?_
                        first | refine p_q _ rfl rfl rfl (fun _ _ => v_fieldAddr rfl Try.underlying115 inf107 rfl rfl rfl rfl) ?_ | refine p_q _ rfl rfl rfl (fun _ _ => v_fieldAddrE rfl Try.underlying115 inf107 rfl rfl rfl rfl) ?_
                        refine p_q _ rfl rfl rfl (fun _ _ => v_lfN (us := B.map iv) rfl Try.underlying107 rfl inf107 rfl (take8 hB) (by rw [List.length_map, hB]; rfl)) ?_
                        first | refine p_q _ rfl rfl rfl (fun _ _ => v_ldW rfl Try.underlying27 rfl inf27 rfl rfl) ?_ | refine p_q _ rfl rfl rfl (fun _ _ => v_lfW rfl Try.underlying27 rfl inf27 rfl rfl) ?_ | refine p_q _ rfl rfl rfl (fun _ _ => v_lfN rfl Try.underlying27 rfl inf27 rfl rfl rfl) ?_ | refine p_q _ rfl rfl rfl (fun _ _ => v_ldN rfl Try.underlying27 rfl inf27 rfl rfl rfl) ?_ | refine p_q _ rfl rfl rfl (fun _ _ => v_loadEN rfl Try.underlying27 rfl inf27 rfl (by omega) rfl rfl rfl) ?_
                        refine p_q _ rfl rfl rfl (fun _ _ => OpQ.fn (with_v _ _ _ _ hB (fun i => by have := hs i; omega) (fun j hj => (hpl j hj).2)) rfl rfl SubRC.sub) ?_
                        refine p_q _ rfl rfl rfl (fun _ _ => mk115 rfl rfl rfl (by rw [with_len, hB])) ?_
                        refine p_q _ rfl rfl rfl (fun _ _ => OpQ.fnm (ih (hp + 1) (with_ B ⟨a, b, c⟩) (by omega) (by rw [with_len, hB]) (fun i => by have := with_small (by omega) hs ⟨a, b, c⟩ i; omega)) rfl [] [pt b1 0, pt b2 0, pt b3 0, pt b4 0, pt b5 0, pt b6 0] rfl rfl rfl SubRC.sub) ?_
                        refine p_q _ rfl rfl rfl (fun _ _ => v_field rfl Try.underlying117 Try.underlying3 inf3 rfl rfl rfl rfl) ?_
                        refine p_lit rfl Try.underlying52 inf3 rfl rfl rfl rfl rfl rfl rfl rfl (by repeat (first | exact trivial | refine ⟨rfl, ?_⟩)) (by rfl) ?_
                        refine p_acc (by simp only [List.nil_append, List.cons_append]; rfl) ?_
                        refine p_depLit 22 rfl rfl (by kernel_rfl) rfl rfl rfl (fun b82 _ _ => OpQ.fn (total2_v b82 _ _ hsd hrc) rfl rfl SubRC.sub) ?_
                        first | refine p_q _ rfl rfl rfl (fun _ _ => v_ldW rfl Try.underlying27 rfl inf27 rfl rfl) ?_ | refine p_q _ rfl rfl rfl (fun _ _ => v_lfW rfl Try.underlying27 rfl inf27 rfl rfl) ?_ | refine p_q _ rfl rfl rfl (fun _ _ => v_lfN rfl Try.underlying27 rfl inf27 rfl rfl rfl) ?_ | refine p_q _ rfl rfl rfl (fun _ _ => v_ldN rfl Try.underlying27 rfl inf27 rfl rfl rfl) ?_ | refine p_q _ rfl rfl rfl (fun _ _ => v_loadEN rfl Try.underlying27 rfl inf27 rfl (by omega) rfl rfl rfl) ?_
                        refine p_q _ rfl rfl rfl (fun _ _ => v_bS rfl Try.underlying117 inf117 plt117 rfl rfl rfl (by repeat (first | exact trivial | refine ⟨rfl, ?_⟩)) (by rfl)) ?_
                        refine p_lit rfl Try.underlying143 inf117 rfl rfl rfl rfl rfl rfl rfl rfl (by repeat (first | exact trivial | refine ⟨rfl, ?_⟩)) (by rfl) ?_
                        refine p_nil2 (by simp only [List.nil_append, List.cons_append]; rfl) ?_
                        refine f_q rfl ?_
                        refine f_q rfl ?_
                        refine f_q rfl ?_
                        refine f_q rfl ?_
                        refine f_q rfl ?_
                        refine f_q rfl ?_
                        refine f_q rfl ?_
                        refine f_q rfl ?_
                        refine f_q rfl ?_
                        refine f_q rfl ?_
                        refine f_q rfl ?_
                        refine f_q rfl ?_
                        refine f_q rfl ?_
                        refine f_q rfl ?_
                        refine f_q rfl ?_
                        refine f_q rfl ?_
                        refine f_q rfl ?_
                        refine f_q rfl ?_
                        refine f_q rfl ?_
                        refine f_q rfl ?_
                        refine f_q rfl ?_
                        refine f_q rfl ?_
                        refine f_lit rfl (fun b81 => ?_)
                        refine f_q rfl ?_
                        refine f_q rfl ?_
                        refine f_q rfl ?_
                        refine f_lit rfl (fun b85 => ?_)
                        refine f_nil ?_
                        refine o_app1F (⟨(F.heaps.getD hp default).sods + (bestW F men r (with_ B ⟨a, b, c⟩)).sods, ⟨a, b, c⟩⟩) rfl Try.underlying143 inf117 rfl (by rfl) (by rfl) rfl rfl rfl rfl rfl (by rfl) (by rfl) (by rfl) (by constructor <;> first | omega | decide) (fun v86 => ?_)
                        refine o_q _ rfl rfl rfl (v_assign rfl rfl) ?_
                        refine o_nil ?_
                        repeat (first | with_reducible refine r_then ?_ | with_reducible refine r_in_normal ?_ | with_reducible refine r_sc_normal ?_)
                        refine r_region ?_
                        refine o_q _ rfl rfl rfl (v_add rfl rfl rfl (by omega)) ?_
                        refine o_q _ rfl rfl rfl (v_move rfl rfl) ?_
                        refine o_nil ?_
                        repeat (first | with_reducible refine r_then ?_ | with_reducible refine r_in_normal ?_ | with_reducible refine r_sc_normal ?_)
                        first
                        | exact r_next ((k + 1, v86)) (by refine Imp.own_to v86 (waysT F men hp B (fun C => (bestW F men r C).sods) (k + 1)) (waysT_yes (by omega) hp_ (by assumption)) ?_; exact r_here (by repeat (first | exact FSub.nil | refine FSub.cons rfl ?_)) SelMC.sel SubRC.sub) (by first | omega | (show _ + 1 ≤ _; omega)) (by first | omega | (show _ - (_ + 1) < _ - _; omega))
                        | exact r_next ((k + 1, v)) (by refine Imp.own_to v (waysT F men hp B (fun C => (bestW F men r C).sods) (k + 1)) (waysT_no (by omega) hp_ (by assumption)) ?_; exact r_here (by repeat (first | exact FSub.nil | refine FSub.cons rfl ?_)) SelMC.sel SubRC.sub) (by first | omega | (show _ + 1 ≤ _; omega)) (by first | omega | (show _ - (_ + 1) < _ - _; omega))
              ·
                first
                | (exfalso; revert hc53; decide)
                | (exfalso; omega)
                | skip
                  refine r_exit ?_
                  repeat (first | with_reducible refine r_then_exit ?_ | with_reducible refine r_sc_exit ?_ | with_reducible refine r_in_here ?_ | (with_reducible refine r_in_past (by decide) ?_) | with_reducible refine r_then ?_ | with_reducible refine r_in_normal ?_ | with_reducible refine r_sc_normal ?_)
                  refine r_seq ?_
                  refine Imp.own_to v (waysT F men hp B (fun C => (bestW F men r C).sods) (sureF selW F hp).length) (by rw [show k = (sureF selW F hp).length from by omega]) ?_
                  have hwl := waysT_le (F := F) (men := men) (h := hp) (B := B) (rec := (fun C => (bestW F men r C).sods)) (k := (sureF selW F hp).length) hb.len
                  refine Imp.settleS v encW_len (fun wa wc hv => ?_)
                  subst hv
                  refine r_region ?_
                  refine o_q _ rfl rfl rfl (v_move rfl rfl) ?_
                  refine o_q _ rfl rfl rfl (v_bS rfl Try.underlying148 inf148 plt148 rfl rfl rfl (by repeat (first | exact trivial | refine ⟨rfl, ?_⟩)) (by rfl)) ?_
                  refine o_q _ rfl rfl rfl (OpQ.fn (chosenW_v _ _ _ hwl) rfl rfl SubRC.sub) ?_
                  refine o_q _ rfl rfl rfl (v_move rfl rfl) ?_
                  refine o_q _ rfl rfl rfl (v_extract rfl rfl rfl) ?_
                  refine o_q _ rfl rfl rfl (v_extract rfl rfl rfl) ?_
                  refine o_alloc rfl inf117 rfl rfl rfl rfl rfl (fun b14 => ?_)
                  refine o_st rfl inf117 rfl rfl rfl rfl rfl rfl rfl rfl ?_
                  refine o_q _ rfl rfl rfl (v_assign rfl rfl) ?_
                  refine o_nil ?_
                  repeat (first | with_reducible refine r_then ?_ | with_reducible refine r_in_normal ?_ | with_reducible refine r_sc_normal ?_)
                  refine r_seq ?_
                  refine r_region ?_
                  first | refine o_q _ rfl rfl rfl (v_ld1 rfl Try.underlying141 rfl rfl rfl) ?_ | refine o_q _ rfl rfl rfl (v_lf1 rfl Try.underlying141 rfl rfl rfl) ?_ | refine o_q _ rfl rfl rfl (v_loadE1 rfl Try.underlying141 rfl rfl (by omega) rfl rfl) ?_
                  refine o_q _ rfl rfl rfl (v_lfW rfl Try.underlying115 rfl inf115 rfl (by rw [List.length_cons, List.length_map, hB]; rfl)) ?_
                  first | refine o_q _ rfl rfl rfl (v_ldW rfl Try.underlying117 rfl inf117 rfl rfl) ?_ | refine o_q _ rfl rfl rfl (v_lfW rfl Try.underlying117 rfl inf117 rfl rfl) ?_ | refine o_q _ rfl rfl rfl (v_lfN rfl Try.underlying117 rfl inf117 rfl rfl rfl) ?_ | refine o_q _ rfl rfl rfl (v_ldN rfl Try.underlying117 rfl inf117 rfl rfl rfl) ?_ | refine o_q _ rfl rfl rfl (v_loadEN rfl Try.underlying117 rfl inf117 rfl (by omega) rfl rfl rfl) ?_
                  refine o_mapUpdate (ok := okW F men) (b := mb) keyLaw115 hkl rfl Try.underlying141 rfl rfl rfl rfl rfl (okW_mk hpr (waysT_all ▸ bestW_eq hpr)) ?_
                  refine o_nil ?_
                  repeat (first | with_reducible refine r_then ?_ | with_reducible refine r_in_normal ?_ | with_reducible refine r_sc_normal ?_)
                  refine r_seq ?_
                  refine r_region ?_
                  first | refine o_q _ rfl rfl rfl (v_ldW rfl Try.underlying117 rfl inf117 rfl rfl) ?_ | refine o_q _ rfl rfl rfl (v_lfW rfl Try.underlying117 rfl inf117 rfl rfl) ?_ | refine o_q _ rfl rfl rfl (v_lfN rfl Try.underlying117 rfl inf117 rfl rfl rfl) ?_ | refine o_q _ rfl rfl rfl (v_ldN rfl Try.underlying117 rfl inf117 rfl rfl rfl) ?_ | refine o_q _ rfl rfl rfl (v_loadEN rfl Try.underlying117 rfl inf117 rfl (by omega) rfl rfl rfl) ?_
                  refine o_st rfl inf117 rfl rfl rfl rfl rfl rfl rfl rfl ?_
                  refine o_nil ?_
                  repeat (first | with_reducible refine r_then ?_ | with_reducible refine r_in_normal ?_ | with_reducible refine r_sc_normal ?_)
                  refine r_ret ?_
                  repeat (first | with_reducible refine r_then_ret ?_ | with_reducible refine r_in_ret ?_ | with_reducible refine r_sc_ret ?_)
                  first
                  | exact r_retm (Rd.one rfl (RdI.cellW Try.underlying117 rfl inf117 rfl rfl)) (by rfl) SelMC.sel SubRC.sub
                  | exact r_retm (Rd.one rfl (RdI.cellW Try.underlying117 rfl inf117 rfl rfl)) (by rw [waysT_all]; exact congrArg valWay (bestW_eq hpr)) SelMC.sel SubRC.sub
end Go.Proofs.Ytienjlmnakbfmaa

namespace Go.G
variable {P : Program} {W : World} {n : Nat} {D : List Deferred} {L : Tm} {M : List Res} {R : List Fact} {Q : Exit → Act → World → Prop} {o : Oper}
/-- A fact that stays when more is known. -/
def Mono (φ : Fact) : Prop := ∀ V V', φ V → Le V V' → φ V'
theorem Mono.box (b : Nat) (T : TypeId) (vs : List Value) : Mono (boxF b T vs) := fun _ _ h hl => hl _ _ h
theorem Mono.row {α : Type} (oa : Option Addr) (sz : Nat) (enc : α → List Value) (xs : List α) : Mono (rowD oa sz enc xs) := fun _ _ h hl => by
  rcases h with h | ⟨b, off, C, T, fr, h1, h2, h3⟩
  · exact .inl h
  · exact .inr ⟨b, off, C, T, fr, h1, hl _ _ h2, h3⟩
theorem Mono.and {φ ψ : Fact} (h : Mono φ) (k : Mono ψ) : Mono (fun V => φ V ∧ ψ V) := fun V V' x hl => ⟨h V V' x.1 hl, k V V' x.2 hl⟩
theorem Imp.exF {α : Type} {φ : α → Fact} {X : Act → World → Prop} (hm : (fun V => ∃ x, φ x V) ∈ R) (hst : ∀ x, Mono (φ x)) (h : ∀ x, Imp W n D L M (φ x :: R) X) : Imp W n D L M R X := by
  intro a w h1 h2 h3
  obtain ⟨s, hS, hO, hR⟩ := h3.mem
  obtain ⟨x, hx⟩ := hR _ hm _ (Le.refl _)
  refine h x a w h1 h2 ⟨h3.os, h3.tape, h3.output, s, hS, hO, ?_⟩
  intro ψ hψ
  rcases List.mem_cons.1 hψ with rfl | hψ
  · exact fun V' hl => hst x _ _ hx hl
  · exact hR ψ hψ
theorem OpG_lit {t e : TypeId} {ps : List (Nat × Operand)} {vs : List Value} {len : Nat} {i : TypeInfo} {z : Value} {cs : List Value} (ho : o.op = .buildSlice t len ps.toArray) (ht : P.underlying t = some (.slice e)) (hi : P.info? e = some i) (hz : i.zero = some z)
    (hbig : Nat.ble (len * i.size) 16777216 = true) (hpos : Nat.beq (len * i.size) 0 = false)
    (hx : evs L (ps.map (·.2)) = some vs) (hk : ps.map (·.1) = List.range ps.length) (hp : PlaceOK (fun k => some (k * i.size, i.size)) 0 0 vs) [hc : CatC vs cs] (hl : cs.length = len * i.size) : OpG P W n L M R o (Spc.lit len e cs) := by
  intro Mx Rx a w g1 g3
  have hu := parts_eq g1 hx hk
  have hb1 : ¬ (2 ^ 24 < len * i.size) := by
    have : len * i.size ≤ 16777216 := by simpa using hbig
    omega
  have hb2 : ¬ (len * i.size = 0) := fun e => by rw [e] at hpos; cases hpos
  have hf := fill_all (cells := (Array.range (len * i.size)).map (fun k => z.cells[k % z.cells.size]!)) hp hc.cat (by simpa using hl)
  have hrun : (execOp a.eval o).run P w = .ok (.value (.slice (some ⟨w.heap.size, 0, none⟩) len len)) (w.alloc (.cells cs.toArray e)) := by
    simp only [execOp, ho, Instr.buildSlice, Sem.run_bind, run_underlying ht, run_sizeOf' hi, Result.andThen_ok, gt_iff_lt, hb1, hb2, if_false, run_zeroValue' hi hz, Sem.run_pure, List.map_toArray, hu, hf]
    simp [newRow, newObj, Sem.run]
  rw [hrun]
  refine ⟨rfl, ?_⟩
  have h4 : St W (bx w.heap.size e cs :: (Mx ++ M)) (Rx ++ R) (w.alloc (.cells cs.toArray e)) := g3.push _
  refine (h4.seal_.derive (ψ := boxF w.heap.size e cs) fun V hV => ?_).weak ?_
  · obtain ⟨s, hs, hp⟩ := hV (sealed (bx w.heap.size e cs)) (by simp)
    have hs' : s = [(w.heap.size, .cells cs.toArray e (0, 0))] := hs
    subst hs'
    exact hp (w.heap.size, .cells cs.toArray e (0, 0)) (by simp)
  · intro φ hφ
    rcases List.mem_append.1 hφ with h | h
    · have : φ = boxF w.heap.size e cs := by simpa [Spc.fs, Spc.g, sblk] using h
      subst this; simp
    · exact List.mem_cons_of_mem _ (List.mem_cons_of_mem _ h)
/-- What is known of a slice of one slice. -/
def slF {α : Type} (b : Nat) (e : TypeId) (m sz : Nat) (enc : α → List Value) (ys : List α) : Fact := fun V => ∃ x : Option Addr × Nat, boxF b e [.slice x.1 m x.2] V ∧ rowD x.1 sz enc ys V
abbrev Spc.sl {α : Type} (m sz : Nat) (enc : α → List Value) (ys : List α) : Spc := Spc.g (isSl m) (fun _ => []) (fun v => [rowD (adr v) sz enc ys])
abbrev Spc.slsl {α : Type} (e : TypeId) (m sz : Nat) (enc : α → List Value) (ys : List α) : Spc := Spc.g (fun v => v = .slice (some ⟨sblk v, 0, none⟩) 1 1) (fun _ => []) (fun v => [slF (sblk v) e m sz enc ys])
theorem p_depSl {α : Type} {ops : Array Oper} {K : List Spc → Prop} {rest : List Oper} {acc : List Spc} {d : Nat} {t e : TypeId} {i : TypeInfo} {z : Value} {x : Nat} (j : Nat) {oj : Oper} {m sz : Nat} {enc : α → List Value} {ys : List α} (hoj : ops[j]? = some oj) (hsj : acc[j]? = some (Spc.sl m sz enc ys)) (hdep : depOn o j = true) (hg : o.guard = none) (hdst : o.dst = some d) (hd : Nat.blt d n = true)
    (ho : o.op = .buildSlice t 1 [(0, Operand.tmp x)].toArray) (hx : oj.dst.getD 0 = x) (ht : P.underlying t = some (.slice e)) (hi : P.info? e = some i) (hz : i.zero = some z) (h1 : i.size = 1)
    (h : ParO P W n M R ops K rest (acc ++ [Spc.slsl e m sz enc ys]) L) : ParO P W n M R ops K (o :: rest) acc L := by
  refine ⟨Spc.slsl e m sz enc ys, by simp [hdst, hd], .inr (.inr ⟨hg, j, oj, _, hoj, hsj, rfl, hdep, fun u hu => ?_⟩), by simpa [addL, Spc.g] using h⟩
  obtain ⟨oa, cap, rfl⟩ := hu
  have hlit : OpG P W n ((oj.dst.getD 0, .slice oa m cap) :: L) M ((Spc.sl m sz enc ys).fct (.slice oa m cap) ++ R) o (Spc.lit 1 e [.slice oa m cap]) := by
    refine OpG_lit (vs := [.slice oa m cap]) ho ht hi hz (by rw [h1]; rfl) (by rw [h1]; rfl) ?_ rfl ⟨by rw [h1]; rfl, trivial⟩ (by rw [h1]; rfl)
    show evs _ [Operand.tmp x] = _
    subst hx
    simp only [evs, ev, look_cons_eq]
  intro Mx Rx a w g1 g3
  have hr := hlit Mx Rx a w g1 g3
  generalize (execOp a.eval o).run P w = r at hr
  have conv : ∀ v w', (Spc.lit 1 e [.slice oa m cap]).val v → St W ((Spc.lit 1 e [.slice oa m cap]).rs v ++ (Mx ++ M)) ((Spc.lit 1 e [.slice oa m cap]).fs v ++ (Rx ++ ((Spc.sl m sz enc ys).fct (.slice oa m cap) ++ R))) w' →
      (Spc.slsl e m sz enc ys).val v ∧ St W ((Spc.slsl e m sz enc ys).rs v ++ (Mx ++ M)) ((Spc.slsl e m sz enc ys).fs v ++ (Rx ++ ((Spc.sl m sz enc ys).fct (.slice oa m cap) ++ R))) w' := by
    intro v w' hv hst
    refine ⟨hv, ?_⟩
    refine (hst.derive (ψ := slF (sblk v) e m sz enc ys) fun V hV => ⟨(oa, cap), hV _ ?_, hV _ ?_⟩).weak ?_
    · exact List.mem_append_left _ (by simp [Spc.fs, Spc.g])
    · exact List.mem_append_right _ (List.mem_append_right _ (List.mem_append_left _ (by simp [Spc.g, adr])))
    · intro φ hφ
      rcases List.mem_append.1 hφ with h | h
      · have : φ = slF (sblk v) e m sz enc ys := by simpa [Spc.fs, Spc.g] using h
        subst this; simp
      · exact List.mem_cons_of_mem _ (List.mem_append_right _ h)
  cases r with
  | ok y w' =>
    cases y <;> simp only [upG] at hr ⊢
    case value v => exact conv v w' hr.1 hr.2
    case skip => exact conv undef w' hr.1 hr.2
    case enter f args =>
      obtain ⟨rfl, hc⟩ := hr
      refine ⟨rfl, hc.mono ?_⟩
      rintro e w'' ⟨v, rfl, h4, h5⟩
      exact ⟨v, rfl, conv v w'' h4 h5⟩
  | halt x w' => exact hr.elim
theorem f_slsl {α : Type} {X : Act → World → Prop} {os : List Oper} {ss : List Spc} {e : TypeId} {m sz : Nat} {enc : α → List Value} {ys : List α} {d : Nat} (hdst : o.dst = some d) (h : ∀ b, Fin W n D X os ss ((d, .slice (some ⟨b, 0, none⟩) 1 1) :: L) M (slF b e m sz enc ys :: R)) : Fin W n D X (o :: os) (Spc.slsl e m sz enc ys :: ss) L M R :=
  f_g hdst (fun v hv => by
    have := h (sblk v)
    rw [← (show v = .slice (some ⟨sblk v, 0, none⟩) 1 1 from hv)] at this
    exact this)
theorem f_gf {X : Act → World → Prop} {os : List Oper} {ss : List Spc} {pval : Value → Prop} {fct : Value → List Fact} {d : Nat} (hdst : o.dst = some d) (h : ∀ v, pval v → Fin W n D X os ss ((d, v) :: L) M (fct v ++ R)) : Fin W n D X (o :: os) (Spc.g pval (fun _ => []) fct :: ss) L M R := f_g hdst h
class HasF (φ : Fact) (R : List Fact) : Prop where
  mem : φ ∈ R
theorem Imp.slF {α : Type} {X : Act → World → Prop} {b : Nat} {e : TypeId} {m sz : Nat} {enc : α → List Value} {ys : List α} [hm : InR (G.slF b e m sz enc ys) R] (h : ∀ oa cap, Imp W n D L M (boxF b e [.slice oa m cap] :: rowD oa sz enc ys :: R) X) : Imp W n D L M R X := by
  refine Imp.exF (φ := fun x : Option Addr × Nat => fun V => boxF b e [.slice x.1 m x.2] V ∧ rowD x.1 sz enc ys V) hm.mem (fun x => (Mono.box _ _ _).and (Mono.row _ _ _ _)) ?_
  rintro ⟨oa, cap⟩
  refine Imp.derive (ψ := rowD oa sz enc ys) ?_ (fun V hV => (hV _ (List.mem_cons_self ..)).2)
  refine Imp.derive (ψ := boxF b e [.slice oa m cap]) ?_ (fun V hV => (hV _ (List.mem_cons_of_mem _ (List.mem_cons_self ..))).1)
  refine (h oa cap).weak (fun _ _ h => h) SelM.refl ?_
  intro φ hφ
  rcases List.mem_cons.1 hφ with rfl | hφ
  · simp
  · rcases List.mem_cons.1 hφ with rfl | hφ
    · simp
    · exact List.mem_cons_of_mem _ (List.mem_cons_of_mem _ (List.mem_cons_of_mem _ hφ))

/-! ### what hands back a function that remembers -/
/-- v, called with the key of what is left, answers it; it keeps m. -/
def FnOk (P : Program) {κ : Type} (dom : κ → Prop) (key : κ → Value) (ans : κ → Value) (v : Value) (m : Res) (Rs : List Fact) : Prop :=
  ∃ k caps, v = .func (.func k) #[] (List.toArray caps) ∧ ∀ x, dom x → FnM P k (key x :: caps) m Rs (fun u => u = ans x)
theorem o_fnk {κ : Type} {dom : κ → Prop} {key ans : κ → Value} {ops : Array Oper} {rest : List Oper} {k : FuncId} {args : List Value} {R0 : List Fact} {xs : List Operand} {ts : Array TypeId} {d : Nat}
    (h : FnS P k args [] R0 (fun e M' R' => ∃ v m, e = .returned v ∧ M' = [m] ∧ FnOk P dom key ans v m R')) (ho : o.op = .call { callee := .value (.func k), args := xs.toArray, argTypes := ts })
    (hx : evs L xs = some args) (hg : o.guard = none) (hdst : o.dst = some d) (hd : Nat.blt d n = true) (hs : SubR R R0)
    (hret : ∀ (k : FuncId) (caps : List Value) (m : Res) (Rs : List Fact), (∀ x, dom x → FnM P k (key x :: caps) m Rs (fun u => u = ans x)) → Imp W n D ((d, .func (.func k) #[] caps.toArray) :: L) (m :: M) (Rs ++ R) (wpList P ops Q rest)) : Imp W n D L M R (wpList P ops Q (o :: rest)) := by
  refine o_call h ho [] [] rfl hx (by simp) hg (by simp [okD, hdst, hd]) SelM.refl hs ?_ ?_ ?_
  · rintro v M' R' ⟨v', m, he, rfl, kk, caps, rfl, hf⟩
    cases he
    rw [hdst]
    exact hret kk caps m R' hf
  · rintro c M' R' ⟨v', m, he, _⟩; cases he
  · rintro M' R' ⟨v', m, he, _⟩; cases he
end Go.G

namespace Go.G
variable {P : Program} {W : World} {n : Nat} {D : List Deferred} {L : Tm} {M : List Res} {R : List Fact} {Q : Exit → Act → World → Prop} {o : Oper}

instance HasOwn.appn {α : Type} {v : Value} {A M M' : List Res} {T : TypeId} {sz : Nat} {enc : α → List Value} {xs : List α} [h : HasOwn v M T sz enc xs M'] : HasOwn v (A ++ M) T sz enc xs (A ++ M') := ⟨by
  obtain ⟨X, Y, h1, h2⟩ := h.del
  exact ⟨A ++ X, Y, by simp [h1], by simp [h2]⟩⟩
instance (priority := 1350) SelMC.capp {M A B : List Res} {r : Res} [h : SelMC M (r :: (A ++ B))] : SelMC M ((r :: A) ++ B) := ⟨h.sel⟩
instance (priority := 1340) SelMC.napp {M B : List Res} [h : SelMC M B] : SelMC M ([] ++ B) := ⟨h.sel⟩
theorem made_flat {α : Type} {enc : α → List Value} {z : Array Value} {z0 : α} (hz : enc z0 = z.toList) : ∀ l : Nat, (madeCells z (l * z.size)).toList = (List.replicate l z0).flatMap enc := by
  intro l
  have hlen : (enc z0).length = z.size := by rw [hz]; simp
  apply List.ext_getElem?
  intro k
  by_cases hk : k < l * z.size
  · have hpos : 0 < z.size := Nat.pos_of_ne_zero fun h => by rw [h] at hk; simp at hk
    have hlt : k % z.size < z.size := Nat.mod_lt _ hpos
    have hdiv : k / z.size < l := Nat.div_lt_of_lt_mul (by rw [Nat.mul_comm]; exact hk)
    have hkk : k = (k / z.size) * z.size + k % z.size := by rw [Nat.mul_comm]; exact (Nat.div_add_mod k z.size).symm
    have key : ∀ (l i j : Nat), i < l → j < z.size → ((List.replicate l z0).flatMap enc)[i * z.size + j]? = z[j]? := by
      intro l
      induction l with
      | zero => intro i j h; omega
      | succ l ih =>
        intro i j h hj
        rw [List.replicate_succ, List.flatMap_cons]
        cases i with
        | zero =>
          rw [List.getElem?_append_left (by rw [hlen]; omega), hz]
          simp
        | succ i =>
          rw [List.getElem?_append_right (by rw [hlen, Nat.add_mul]; omega), hlen, show (i + 1) * z.size + j - z.size = i * z.size + j from by rw [Nat.add_mul]; omega]
          exact ih i j (by omega) hj
    rw [show ((List.replicate l z0).flatMap enc)[k]? = z[k % z.size]? from by conv => lhs; rw [hkk]
                                                                              exact key l _ _ hdiv hlt]
    unfold madeCells
    simp [hk, hlt]
  · have h1 : ((List.replicate l z0).flatMap enc).length = l * z.size := by
      clear hk
      induction l with
      | zero => simp
      | succ l ih => rw [List.replicate_succ, List.flatMap_cons, List.length_append, hlen, ih, Nat.add_mul]; omega
    rw [List.getElem?_eq_none (by simp [madeCells]; omega), List.getElem?_eq_none (by omega)]

/-- 'make([]T, l, c)'. -/
theorem o_make {α : Type} {enc : α → List Value} {ops : Array Oper} {rest : List Oper} {t e : TypeId} {i : TypeInfo} {z : Value} {x y : Operand} {l c d : Nat} {sz : Nat} (z0 : α) (ho : o.op = .makeSlice t x y) (ht : P.underlying t = some (.slice e)) (hi : P.info? e = some i) (hz : i.zero = some z) (hsz : i.size = sz) (hzs : z.cells.size = sz) (hz0 : enc z0 = z.cells.toList)
    (hg : o.guard = none) (hdst : o.dst = some d) (hd : Nat.blt d n = true) (hx : ev L x = some (.int .i64 (l : Int))) (hy : ev L y = some (.int .i64 (c : Int))) (hlc : l ≤ c) (hbd : c ≤ 1000000 ∧ i.bytes ≤ 1000000)
    (h : ∀ b, Imp W n D ((d, .slice (some ⟨b, 0, none⟩) l c) :: L) (ownL (.slice (some ⟨b, 0, none⟩) l c) e sz enc (List.replicate l z0) :: M) R (wpList P ops Q rest)) : Imp W n D L M R (wpList P ops Q (o :: rest)) := by
  intro a w g1 g2 g3
  refine wpList_plain hg fun K hK => ?_
  unfold Oper.wp
  have hby : (i.bytes : Int) * (c : Int) ≤ 281474976710656 := by
    have h1 : i.bytes * c ≤ 1000000 * 1000000 := Nat.mul_le_mul hbd.2 hbd.1
    have h2 : ((i.bytes * c : Nat) : Int) ≤ 281474976710656 := by omega
    rwa [Int.natCast_mul] at h2
  have hr := run_make (P := P) w t e i z ht hi hz .i64 .i64 l c (by omega) (by omega) hby (by omega)
  have key : ∀ ρ : Operand → Value, ρ x = .int .i64 (l : Int) → ρ y = .int .i64 (c : Int) → (execOp ρ o).run P w = .ok (.value (.slice (some ⟨w.heap.size, 0, none⟩) l c)) (w.alloc (.cells (madeCells z.cells (c * i.size)) e)) := by
    intro ρ e1 e2
    unfold execOp
    simp only [Int.toNat_natCast] at hr
    simp only [ho, e1, e2, Sem.run_bind, hr, Result.andThen_ok, Sem.run_pure]
  rw [key _ (g1.ev hx) (g1.ev hy), Oper.upon_value, hdst]
  refine hK _ _ (h w.heap.size _ _ (g1.put (by simpa using hd) _) (by rw [put_defers]; exact g2) ?_)
  have h4 := g3.push (.cells (madeCells z.cells (c * i.size)) e)
  obtain ⟨s, ⟨s1, s2, rfl, hs1, hM⟩, hO, hR⟩ := h4.mem
  refine ⟨h4.os, h4.tape, h4.output, s1 ++ s2, ⟨s1, s2, rfl, ?_, hM⟩, hO, hR⟩
  have hfl := made_flat (enc := enc) (z := z.cells) hz0 l
  have hlen : ((List.replicate l z0).flatMap enc).length = l * sz := by rw [← hfl, hzs]; simp [madeCells]
  refine ⟨by rw [hlen]; simp, .inr ⟨w.heap.size, c, _, by simp, by simpa using hlc, by simp only [maxLen]; omega, by rw [size_madeCells, hsz], ?_, hs1⟩⟩
  rw [List.length_replicate, ← hfl, hzs, hsz]
  apply List.ext_getElem?
  intro k
  rw [List.getElem?_take]
  unfold madeCells
  have hle : l * sz ≤ c * sz := Nat.mul_le_mul_right _ hlc
  split
  · rename_i hk
    simp [hk, show k < c * sz from by omega]
  · rename_i hk
    simp [hk]

/-- 'copy(dst, src)', as many elements on both sides. -/
theorem o_copy {α : Type} {enc : α → List Value} {ops : Array Oper} {rest : List Oper} {t t2 e : TypeId} {i : TypeInfo} {x y : Operand} {d m : Nat} {sz cap : Nat} {v : Value} {xs ys : List α} {oa : Option Addr} {M' : List Res} [hM : HasOwn v M e sz enc xs M'] [hr : HasRow oa R sz enc ys] (ho : o.op = .call { callee := .builtin .copy, args := #[x, y], argTypes := #[t, t2] })
    (ht : P.underlying t = some (.slice e)) (hi : P.info? e = some i) (hsz : i.size = sz) (hg : o.guard = none) (hdst : o.dst = some d) (hd : Nat.blt d n = true) (henc : ∀ x, (enc x).length = sz) (h1 : ∀ x, oneCells (enc x) = true)
    (hx : ev L x = some v) (hy : ev L y = some (.slice oa m cap)) (hm : m = ys.length) (hl : xs.length = ys.length)
    (h : Imp W n D ((d, .int .i64 (m : Int)) :: L) (ownL v e sz enc ys :: M') R (wpList P ops Q rest)) : Imp W n D L M R (wpList P ops Q (o :: rest)) := by
  subst hm hsz
  intro a w g1 g2 g3
  refine wpList_plain hg fun K hK => ?_
  unfold Oper.wp
  have h0 : St W (ownL v e i.size enc xs :: M') R w := g3.perm hM.del.perm
  obtain ⟨s, ho', hO⟩ := h0.res (Upd.of_mem (List.mem_cons_self ..))
  have hcl : (ys.flatMap enc).length = ys.length * i.size := by
    clear hr hy hl h
    induction ys with
    | nil => simp
    | cons y ys ih => rw [List.flatMap_cons, List.length_append, henc, ih, List.length_cons, Nat.add_mul]; omega
  have h1c : ∀ u ∈ ys.flatMap enc, u.oneCell' = true := by
    intro u hu
    obtain ⟨y, _, hy⟩ := List.mem_flatMap.1 hu
    exact oneCells_mem (h1 y) u hy
  have run : ∃ w', (Builtin.copy_ #[t, t2] o.type #[v, .slice oa ys.length cap]).run P w = .ok (goInt ys.length) w' ∧ St W (ownL v e i.size enc ys :: M') R w' := by
    obtain ⟨hlen, hcase⟩ := ho'
    by_cases hy0 : ys = []
    · subst hy0
      have hx0 : xs = [] := List.eq_nil_of_length_eq_zero (by simpa using hl)
      subst hx0
      refine ⟨w, ?_, h0⟩
      rcases hcase with ⟨rfl, _, _⟩ | ⟨b, cp, C, rfl, _⟩ <;> cases oa <;> simp [Builtin.copy_, run_underlying ht, Builtin.lenOf, Builtin.firstCells, sizeOf, typeInfo, hi, loadCells, loadCellsFrom, storeCells]
    · have hne : 0 < ys.length := List.length_pos_iff.2 hy0
      obtain ⟨b2, off, rfl, hc⟩ := g3.row hr.mem hne
      rcases hcase with ⟨rfl, h00, _⟩ | ⟨b, cp, C, rfl, hmc, hcm, hC, htake, rfl⟩
      · omega
      · have hb : w.heap[b]? = some (.cells C e (0, 0)) := hO.at_ (b, _) (by simp)
        have hload := run_loadCells_list (P := P) w ⟨b2, off, none⟩ (ys.flatMap enc) (fun j u hu => by
          have hj : j < ys.length * i.size := by rw [← hcl]; exact (List.getElem?_eq_some_iff.1 hu).1
          have hpos : 0 < i.size := Nat.pos_of_ne_zero fun h => by rw [h] at hj; simp at hj
          have hlt : j % i.size < i.size := Nat.mod_lt _ hpos
          have hdiv : j / i.size < ys.length := Nat.div_lt_of_lt_mul (by rw [Nat.mul_comm]; exact hj)
          have hkk : j = (j / i.size) * i.size + j % i.size := by rw [Nat.mul_comm]; exact (Nat.div_add_mod j i.size).symm
          have e1 := flat_at henc ys _ _ hdiv hlt
          rw [← hkk, hu] at e1
          rw [add_at]
          have e2 := hc _ _ hdiv hlt
          rw [Nat.add_assoc, ← hkk] at e2
          rw [e2, ← e1])
        have hfit : 0 + 0 + (ys.flatMap enc).length ≤ C.size := by
          rw [hcl, hC]; simp only [Nat.zero_add]; exact Nat.mul_le_mul_right _ (by omega)
        have hst := run_storeCells_at P b 0 e (ys.flatMap enc) 0 C w hb hfit h1c
        refine ⟨w.setRow b (C.toList.take (0 + 0) ++ ys.flatMap enc ++ C.toList.drop (0 + 0 + (ys.flatMap enc).length)).toArray, ?_, ?_⟩
        · have hmin : Nat.min ys.length ys.length = ys.length := Nat.min_self _
          rw [hcl] at hload
          rw [hl]
          unfold Builtin.copy_
          simp only [List.size_toArray, List.length_cons, List.length_nil, Nat.reduceAdd, Nat.lt_add_one, Nat.zero_lt_succ, Array.getElem?_eq_getElem, List.getElem_toArray, List.getElem_cons_zero, List.getElem_cons_succ, Sem.run_bind, run_underlying ht, Result.andThen_ok, Builtin.lenOf, Builtin.firstCells, Sem.run_pure, run_sizeOf' hi, hmin, hload, hst]
        · refine h0.replace Upd.here rfl rfl rfl ?_
          rintro s' ⟨_, hc'⟩ hO'
          have hs' : s' = [(b, .cells C e (0, 0))] := by
            rcases hc' with ⟨hv, _⟩ | ⟨b', cap', C', hv, _, _, _, _, hs''⟩
            · cases hv
            · simp only [Value.slice.injEq, Option.some.injEq, Addr.mk.injEq] at hv
              obtain ⟨⟨rfl, _, _⟩, _, rfl⟩ := hv
              subst hs''
              have := hO'.at_ (b, .cells C' e (0, 0)) (by simp)
              simp only at this
              rw [hb] at this
              simp only [Option.some.injEq, Obj.cells.injEq] at this
              rw [this.1]
          subst hs'
          refine ⟨[(b, .cells (C.toList.take (0 + 0) ++ ys.flatMap enc ++ C.toList.drop (0 + 0 + (ys.flatMap enc).length)).toArray e (0, 0))], ⟨hcl, .inr ⟨b, cp, _, by rw [hl], by omega, hcm, ?_, ?_, rfl⟩⟩, ⟨by simp [keys], ?_⟩, ?_, ?_⟩
          · simp only [List.size_toArray, List.length_append, List.length_take, List.length_drop, Array.length_toList]
            omega
          · simp only [Nat.add_zero, List.take_zero, List.nil_append]
            rw [← hcl]
            exact List.take_left
          · intro p hp
            simp only [List.mem_singleton] at hp
            subst hp
            exact setRow_heap w b C _ e _ hb
          · intro x hx; exact .inl (by simpa [keys] using hx)
          · intro x _ hx
            exact setRow_other w b x _ (by simpa [keys] using hx)
  obtain ⟨w', hr', hw'⟩ := run
  have hrun : ∀ ρ : Operand → Value, ρ x = v → ρ y = .slice oa ys.length cap → (execOp ρ o).run P w = .ok (.value (goInt ys.length)) w' := by
    intro ρ e1 e2
    unfold execOp
    simp only [ho, resolve, invoke, builtin, Sem.run_bind, Sem.run_pure, Result.andThen_ok, List.map_toArray, List.map_cons, List.map_nil, e1, e2, hr']
  rw [hrun _ (g1.ev hx) (g1.ev hy), Oper.upon_value, hdst]
  exact hK _ _ (h _ w' (g1.put (by simpa using hd) _) (by rw [put_defers]; exact g2) hw')

/-! ### functions that hand over blocks -/
theorem FnS.intro0 {k : FuncId} {args : List Value} {R0 : List Fact} {Post : Ending → List Res → List Fact → Prop} {fn : Func} {c : Code} (he : ∀ (ag : Array Value) (w : World), (callFunc k ag).run P w = .ok (.enter k ag) w)
    (hf : P.funcs[k]? = some fn) (hb : fn.body = some c) (hn : fn.ntmps = n) (ha : Nat.ble args.length n = true)
    (h : ∀ W Mf Rf, Imp W n [] (argsL args 0) Mf (R0 ++ Rf) (c.wp P (bodyPost P fn (RetE W Mf (R0 ++ Rf) Post)))) : FnS P k args [] R0 Post := FnS.intro he hf hb hn ha h
theorem FnS.introD0 {k : FuncId} {args : List Value} {R0 : List Fact} {Post : Ending → List Res → List Fact → Prop} {fn : Func} {c : Code} (he : ∀ (ag : Array Value) (w : World), (callFunc k ag).run P w = .ok (.enter k ag) w)
    (hf : P.funcs[k]? = some fn) (hb : fn.body = some c) (hn : fn.ntmps = n) (ha : Nat.ble args.length n = true)
    (h : ∀ W Mf Rf, Imp W n [] (argsL args 0) Mf (R0 ++ Rf) (c.wp P (bodyPostD P fn (RetE W Mf (R0 ++ Rf) Post)))) : FnS P k args [] R0 Post := by
  refine ⟨he, fun W Mf Rf w hw => calls_of_wp_defers hf hb ?_⟩
  rw [hn]
  exact h W Mf Rf _ w (FSat.entry (Nat.le_of_ble_eq_true ha)) rfl hw
theorem d_rete {k : FuncId} {K : IntKind} {rT B : TypeId} {b : Nat} {fn : Func} {v : Value} {Mf : List Res} {R0 : List Fact} {Post : Ending → List Res → List Fact → Prop} (M' : List Res) (R' : List Fact) (ha : AnsP P k K rT B) (hr : Rd P W n L M R fn v) (hp : Post (.returned v) M' R') (hM : SelM M (M' ++ Mf)) (hR : SubR R (R' ++ R0)) :
    Imp W n [{ target := .fn (.func k) #[], args := #[pt b 0] }] L M R (bodyPostD P fn (RetE W Mf R0 Post) .ret) :=
  leaves_ret ha hr (fun _ h => ⟨M', R', hp, (h.sel hM).weak hR⟩)
theorem d_pane {k : FuncId} {K : IntKind} {rT B : TypeId} {b : Nat} {x : Value} {y : Int} {M1 : List Res} {fn : Func} {v : Value} {Mf : List Res} {R0 : List Fact} {Post : Ending → List Res → List Fact → Prop} (M' : List Res) (R' : List Fact) (ha : AnsP P k K rT B) [hu : UpdBox b M B [x] [.int K y] M1] (hr : Rd P W n L M1 R fn v) (hp : Post (.returned v) M' R') (hM : SelM M1 (M' ++ Mf)) (hR : SubR R (R' ++ R0)) :
    Imp W n [{ target := .fn (.func k) #[], args := #[pt b 0] }] L M R (bodyPostD P fn (RetE W Mf R0 Post) (.panic [{ v := .iface rT (.int K y), recovered := false }])) :=
  leaves_pan ha hr (fun _ h => ⟨M', R', hp, (h.sel hM).weak hR⟩)
end Go.G

namespace Foot4
open Go Go.G
abbrev KeyW := Nat × Nat × List Int
def domW (F : Work) (x : KeyW) : Prop := x.1 + x.2.1 = F.heaps.length ∧ x.2.2.length = 8 ∧ Small x.2.2 (3 * x.1)
@[reducible] def keyW (x : KeyW) : Value := keyL x.1 x.2.2
@[reducible] def ansW (F : Work) (men : Int) (x : KeyW) : Value := valWay (bestW F men x.2.1 x.2.2)
@[reducible] def zeros : List Int := [0, 0, 0, 0, 0, 0, 0, 0]
theorem small_zeros (m : Int) (h : 0 ≤ m) : Small zeros m := fun i => by
  match i with
  | 0 | 1 | 2 | 3 | 4 | 5 | 6 | 7 => exact ⟨Int.le_refl 0, h⟩
  | n + 8 => exact ⟨Int.le_refl 0, h⟩
def bestS (F : Work) (men : Int) : Int := (bestW F men F.heaps.length zeros).sods
/-- How it goes on, heap by heap. -/
def stW (F : Work) (men : Int) : Nat → List Int × List T3
  | 0 => (zeros, [])
  | k + 1 => (with_ (stW F men k).1 (bestW F men (F.heaps.length - k) (stW F men k).1).plan, (stW F men k).2 ++ [(bestW F men (F.heaps.length - k) (stW F men k).1).plan])
theorem stW_len (F : Work) (men : Int) : ∀ k, (stW F men k).1.length = 8 ∧ (stW F men k).2.length = k
  | 0 => ⟨rfl, rfl⟩
  | k + 1 => by simp [stW, with_len, stW_len F men k]
theorem stW_small (F : Work) (men : Int) : ∀ k : Nat, Small (stW F men k).1 (3 * k)
  | 0 => small_zeros _ (by omega)
  | k + 1 => by
    have := with_small (by omega) (stW_small F men k) (bestW F men (F.heaps.length - k) (stW F men k).1).plan
    intro i
    have := this i
    simp only [stW]
    omega
theorem bestW_plan {F : Work} (hn : F.rain.length ≤ 8) (men : Int) : ∀ r B, 0 < r → ∀ j, j < 3 → -1 ≤ (bestW F men r B).plan.at j ∧ (bestW F men r B).plan.at j ≤ 7
  | 0, _, h => absurd h (by omega)
  | r + 1, B, _ => by
    have hm := wayL_mem (l := waysW F men (F.heaps.length - (r + 1)) B (fun C => (bestW F men r C).sods) (sureF selW F (F.heaps.length - (r + 1)))) (by simp [waysW])
    intro j hj
    show -1 ≤ (wayL _).plan.at j ∧ (wayL _).plan.at j ≤ 7
    rcases List.mem_cons.1 hm with e | hm'
    · rw [e]
      obtain rfl | rfl | rfl : j = 0 ∨ j = 1 ∨ j = 2 := by omega
      all_goals (show (-1 : Int) ≤ -1 ∧ (-1 : Int) ≤ 7; omega)
    · obtain ⟨p, hp, e⟩ := List.mem_map.1 hm'
      rw [← e]
      have := whole_days (List.mem_filter.1 (List.mem_filter.1 hp).1).1 j hj
      show -1 ≤ p.at j ∧ p.at j ≤ 7
      omega
def bestP (F : Work) : Int × List T3 × Int := if GoodF F then (bestS F F.men, (stW F F.men F.heaps.length).2, 0) else (0, [], 1)
theorem bestP_ok {F : Work} (h : GoodF F) : bestP F = (bestS F F.men, (stW F F.men F.heaps.length).2, 0) := if_pos h
theorem bestP_bad {F : Work} (h : ¬ GoodF F) : bestP F = (0, [], 1) := if_neg h
def enough (F : Work) (n : Nat) : Prop := ¬ bestS F n < bestS F 3
instance (F : Work) (n : Nat) : Decidable (enough F n) := by unfold enough; infer_instance
def menN (F : Work) : Nat := if enough F 0 then 0 else if enough F 1 then 1 else if enough F 2 then 2 else 3
theorem menN_at {F : Work} {k : Nat} (hk : k ≤ 3) (h : enough F k) (h0 : ∀ j, j < k → ¬ enough F j) : k = menN F := by
  unfold menN
  obtain rfl | rfl | rfl | rfl : k = 0 ∨ k = 1 ∨ k = 2 ∨ k = 3 := by omega
  · rw [if_pos h]
  · rw [if_neg (h0 0 (by omega)), if_pos h]
  · rw [if_neg (h0 0 (by omega)), if_neg (h0 1 (by omega)), if_pos h]
  · rw [if_neg (h0 0 (by omega)), if_neg (h0 1 (by omega)), if_neg (h0 2 (by omega))]
theorem enough_3 (F : Work) : enough F 3 := by
  show ¬ bestS F ((3 : Nat) : Int) < bestS F 3
  exact Int.lt_irrefl _
def menP (F : Work) : Int × Int × Int := if GoodF F then ((menN F : Int), bestS F 3, 0) else (0, 0, 1)
theorem menP_ok {F : Work} (h : GoodF F) : menP F = ((menN F : Int), bestS F 3, 0) := if_pos h
theorem menP_bad {F : Work} (h : ¬ GoodF F) : menP F = (0, 0, 1) := if_neg h
theorem allRows_nil {F : Work} {V : View} : allRows F [] V := fun _ h => absurd h (by simp)
theorem allRows_add {F : Work} {xs : List Inner} {x : Inner} {V : View} (h : allRows F xs V) (hx : rowD x.1 3 encT (sureF selW F xs.length) V) : allRows F (xs ++ [x]) V := by
  intro k hk
  rw [List.length_append, List.length_singleton] at hk
  by_cases e : k = xs.length
  · subst e
    simpa [List.getD_eq_getElem?_getD] using hx
  · have : (xs ++ [x]).getD k default = xs.getD k default := by
      simp only [List.getD_eq_getElem?_getD]; rw [List.getElem?_append_left (by omega)]
    rw [this]; exact h k (by omega)
theorem Rows_add {F : Work} {xs : List Inner} {x : Inner} (h : Rows F xs) (hl : xs.length < F.heaps.length) (hx : x.2.1 = (sureF selW F xs.length).length) : Rows F (xs ++ [x]) := by
  refine ⟨by simp; omega, fun k hk => ?_⟩
  rw [List.length_append, List.length_singleton] at hk
  by_cases e : k = xs.length
  · subst e
    simpa [List.getD_eq_getElem?_getD] using hx
  · have : (xs ++ [x]).getD k default = xs.getD k default := by
      simp only [List.getD_eq_getElem?_getD]; rw [List.getElem?_append_left (by omega)]
    rw [this]; exact h.2 k (by omega)
theorem oneT (t : T3) : oneCells (encT t) = true := rfl
end Foot4

namespace Go.Proofs.Ytienjlmnakbfmaa
open Go.G Foot4
set_option maxRecDepth 1000000
attribute [local irreducible] G.ParO G.Fin
theorem best1_m (F : Work) (ro ho : Option Addr) (rc hc : Nat) (fb : Nat) (men : Int) (hg : GoodF F) (b1 b2 b3 b4 b5 b6 mb : Nat) (sa : Option Addr) (sc : Nat) (xs : List Inner) (hxl : xs.length = F.heaps.length) (hR : Foot4.Rows F xs) : ∀ (r hp : Nat) (C : List Int), hp + r = F.heaps.length → C.length = 8 → Small C (3 * hp) → FnM Try.prog 96 [keyL hp C, pt b1 0, pt b2 0, pt b3 0, pt b4 0, pt b5 0, pt b6 0] (memo Try.prog 115 (okW F men) mb) [boxF b1 81 [pt fb 0], boxF b2 141 [.map (some mb)], boxF b3 112 [.func (.func 96) #[] #[pt b1 0, pt b2 0, pt b3 0, pt b4 0, pt b5 0, pt b6 0]], boxF b4 27 [i64 (-1), i64 (-1), i64 (-1)], boxF b5 140 [.slice sa xs.length sc], boxF b6 3 [i64 men], rowD sa 1 encO xs, allRows F xs, boxF fb 126 (cellsF F ro rc ho hc), rowD ro 2 encS F.rain, rowD ho 3 encH F.heaps] (fun u => u = valWay (bestW F men r C))
  | 0, hp, C, h1, h2, h3 => best1_0 F ro ho rc hc fb men hg b1 b2 b3 b4 b5 b6 mb sa sc xs hxl hR hp h1 C h2 h3
  | r + 1, hp, C, h1, h2, h3 => best1_s F ro ho rc hc fb men hg b1 b2 b3 b4 b5 b6 mb sa sc xs hxl hR r (best1_m F ro ho rc hc fb men hg b1 b2 b3 b4 b5 b6 mb sa sc xs hxl hR r) hp h1 C h2 h3
theorem sure_n (F : Work) (ro ho : Option Addr) (rc hc : Nat) (fb k : Nat) (h : k < F.heaps.length) (hb : Bnd F) : FnR Try.prog 60 [pt fb 0, i64 (k : Int), wetT.i] [boxF fb 126 (cellsF F ro rc ho hc), rowD ro 2 encS F.rain, rowD ho 3 encH F.heaps] (isSl (sureF selW F k).length) (fun v => [rowD (adr v) 3 encT (sureF selW F k)]) := sure_fr wetT F ro ho rc hc fb (k : Int) (by omega) (by omega) hb
theorem encO_len (x : Inner) : (encO x).length = 1 := rfl
set_option maxHeartbeats 4000000 in
theorem best_s (F : Work) (ro ho : Option Addr) (rc hc : Nat) (fb : Nat) (men : Int) (hg : GoodF F) : FnS Try.prog 74 [pt fb 0, i64 men] [] [boxF fb 126 (cellsF F ro rc ho hc), rowD ro 2 encS F.rain, rowD ho 3 encH F.heaps] (fun e M' R' => ∃ v m, e = .returned v ∧ M' = [m] ∧ FnOk Try.prog (domW F) keyW (ansW F men) v m R') := by
  have hb := hg.bnd
  have hl3 := hg.2.2.1
  refine FnS.intro0 Try.call74 Try.func74 rfl Try.ntmps74 rfl ?_
  intro W M Rf
  refine r_seq ?_
  refine r_region ?_
  refine o_box1 rfl rfl rfl rfl rfl rfl (fun b2 => ?_)
  refine o_box1 rfl rfl rfl rfl rfl rfl (fun b3 => ?_)
  refine o_q _ rfl rfl rfl (v_assign rfl rfl) ?_
  refine o_nil ?_
  repeat (first | with_reducible refine r_then ?_ | with_reducible refine r_in_normal ?_ | with_reducible refine r_sc_normal ?_)
  refine r_seq ?_
  refine r_region ?_
  refine o_q _ rfl rfl rfl (v_bA rfl Try.underlying27 inf27 inf3 rfl rfl rfl (by repeat (first | exact trivial | refine ⟨rfl, ?_⟩)) (by rfl)) ?_
  refine o_alloc rfl inf27 rfl rfl rfl rfl rfl (fun b5 => ?_)
  refine o_st rfl inf27 rfl rfl rfl rfl rfl rfl rfl rfl ?_
  refine o_nil ?_
  repeat (first | with_reducible refine r_then ?_ | with_reducible refine r_in_normal ?_ | with_reducible refine r_sc_normal ?_)
  refine r_seq ?_
  refine Imp.box_to b5 [i64 (-1), i64 (-1), i64 (-1)] rfl ?_
  refine Imp.sealB b5 ?_
  refine Imp.sealB b3 ?_
  refine Imp.sealB b2 ?_
  refine r_region ?_
  refine o_alloc rfl inf140 rfl rfl rfl rfl rfl (fun b6 => ?_)
  refine o_nil ?_
  repeat (first | with_reducible refine r_then ?_ | with_reducible refine r_in_normal ?_ | with_reducible refine r_sc_normal ?_)
  refine r_seq ?_
  refine r_seq ?_
  refine Imp.nilL 40 1 encO ?_
  refine Imp.derive (ψ := allRows F []) ?_ (fun V _ => allRows_nil)
  refine r_region ?_
  first | refine o_q _ rfl rfl rfl (v_ld1 rfl Try.underlying81 rfl rfl rfl) ?_ | refine o_q _ rfl rfl rfl (v_lf1 rfl Try.underlying81 rfl rfl rfl) ?_ | refine o_q _ rfl rfl rfl (v_loadE1 rfl Try.underlying81 rfl rfl (by omega) rfl rfl) ?_
  refine o_q _ rfl rfl rfl (v_nilCheck rfl rfl) ?_
  first | refine o_q _ rfl rfl rfl (v_fieldAddr rfl Try.underlying126 inf26 rfl rfl rfl rfl) ?_ | refine o_q _ rfl rfl rfl (v_fieldAddrE rfl Try.underlying126 inf26 rfl rfl rfl rfl) ?_
  first | refine o_q _ rfl rfl rfl (v_fieldAddr rfl Try.underlying26 inf24 rfl rfl rfl rfl) ?_ | refine o_q _ rfl rfl rfl (v_fieldAddrE rfl Try.underlying26 inf24 rfl rfl rfl rfl) ?_
  first | refine o_q _ rfl rfl rfl (v_ld1 rfl Try.underlying24 rfl rfl rfl) ?_ | refine o_q _ rfl rfl rfl (v_lf1 rfl Try.underlying24 rfl rfl rfl) ?_ | refine o_q _ rfl rfl rfl (v_loadE1 rfl Try.underlying24 rfl rfl (by omega) rfl rfl) ?_
  refine o_q _ rfl rfl rfl (v_len rfl rfl Try.underlying24 rfl) ?_
  refine o_q _ rfl rfl rfl (v_move rfl rfl) ?_
  refine o_nil ?_
  repeat (first | with_reducible refine r_then ?_ | with_reducible refine r_in_normal ?_ | with_reducible refine r_sc_normal ?_)
  refine r_block ?_
  refine r_loop (ι := Nat × Value × List Inner) (fun gh => gh.1 ≤ F.heaps.length ∧ gh.2.2.length = gh.1 ∧ Foot4.Rows F gh.2.2) (fun gh => [(2, pt b2 0), (3, pt b3 0), (5, pt b5 0), (6, pt b6 0), (16, i64 F.heaps.length), (17, i64 gh.1)]) (fun gh => ownL gh.2.1 40 1 encO gh.2.2 :: bx b6 140 [gh.2.1] :: M) (fun gh => allRows F gh.2.2 :: boxF b5 27 [i64 (-1), i64 (-1), i64 (-1)] :: boxF b3 3 [i64 men] :: boxF b2 81 [pt fb 0] :: ([boxF fb 126 (cellsF F ro rc ho hc), rowD ro 2 encS F.rain, rowD ho 3 encH F.heaps] ++ Rf)) (fun gh => F.heaps.length - gh.1) (0, .slice none 0 0, []) ?_ ?_ ?_
  ·
    refine Imp.box_to b6 [.slice none 0 0] rfl ?_
    exact r_here (by repeat (first | exact FSub.nil | refine FSub.cons rfl ?_)) SelMC.sel SubRC.sub
  ·
    exact ⟨Nat.zero_le _, rfl, Nat.zero_le _, fun h hh => absurd hh (by simp)⟩
  ·
    rintro ⟨k, v, xs⟩ hI0
    dsimp only at hI0
    dsimp only
    have hR := hI0.2.2
    have hlx : xs.length = k := hI0.2.1
    have hkl : k ≤ F.heaps.length := hI0.1
    refine r_seq ?_
    refine r_region ?_
    refine o_q _ rfl rfl rfl (v_lss rfl rfl rfl) ?_
    refine o_nil ?_
    repeat (first | with_reducible refine r_then ?_ | with_reducible refine r_in_normal ?_ | with_reducible refine r_sc_normal ?_)
    refine r_seq ?_
    first | refine r_condd rfl (fun hc18 => ?_) (fun hc18 => ?_) | refine r_cond rfl (fun hc18 => ?_) (fun hc18 => ?_)
    ·
      first
      | (exfalso; revert hc18; decide)
      | (exfalso; omega)
      | skip
        refine r_skip ?_
        repeat (first | with_reducible refine r_then ?_ | with_reducible refine r_in_normal ?_ | with_reducible refine r_sc_normal ?_)
        refine r_seq ?_
        refine r_block ?_
        refine r_seq ?_
        refine r_region ?_
        refine o_q _ rfl rfl rfl (v_move rfl rfl) ?_
        refine o_q _ rfl rfl rfl (v_assign rfl rfl) ?_
        refine o_nil ?_
        repeat (first | with_reducible refine r_then ?_ | with_reducible refine r_in_normal ?_ | with_reducible refine r_sc_normal ?_)
        refine r_par' 7 mixed (by kernel_rfl) (by rfl) ?_
        first | refine p_q _ rfl rfl rfl (fun _ _ => v_ld1 rfl Try.underlying140 rfl rfl rfl) ?_ | refine p_q _ rfl rfl rfl (fun _ _ => v_lf1 rfl Try.underlying140 rfl rfl rfl) ?_ | refine p_q _ rfl rfl rfl (fun _ _ => v_loadE1 rfl Try.underlying140 rfl rfl (by omega) rfl rfl) ?_
        first | refine p_q _ rfl rfl rfl (fun _ _ => v_ld1 rfl Try.underlying81 rfl rfl rfl) ?_ | refine p_q _ rfl rfl rfl (fun _ _ => v_lf1 rfl Try.underlying81 rfl rfl rfl) ?_ | refine p_q _ rfl rfl rfl (fun _ _ => v_loadE1 rfl Try.underlying81 rfl rfl (by omega) rfl rfl) ?_
        refine p_q _ rfl rfl rfl (fun _ _ => v_move rfl rfl) ?_
        refine p_q _ rfl rfl rfl (fun _ _ => v_bS0 rfl Try.underlying90 inf90 plt90 rfl rfl) ?_
        refine p_q _ rfl rfl rfl (fun _ _ => v_makeIface rfl Try.underlying90 rfl rfl) ?_
        refine p_fn (sure_n F ro ho rc hc fb k (by omega) hb) rfl rfl rfl rfl rfl SubRC.sub ?_
        refine p_acc (by simp only [List.nil_append, List.cons_append]; rfl) ?_
        refine p_depSl 5 rfl rfl (by kernel_rfl) rfl rfl rfl rfl rfl Try.underlying140 inf40 rfl rfl ?_
        refine p_nil2 (by simp only [List.nil_append, List.cons_append]; rfl) ?_
        refine f_q rfl ?_
        refine f_q rfl ?_
        refine f_q rfl ?_
        refine f_q rfl ?_
        refine f_q rfl ?_
        refine f_gf rfl (fun v25 hv25 => ?_)
        refine f_slsl rfl (fun b26 => ?_)
        refine f_nil ?_
        refine Imp.slF (b := b26) (e := 40) (m := (sureF selW F k).length) (sz := 3) (enc := encT) (ys := (sureF selW F k)) (fun oa cp => ?_)
        refine o_app1F (((oa, (sureF selW F k).length, cp) : Inner)) rfl Try.underlying140 inf40 rfl (by rfl) (by rfl) rfl rfl rfl rfl rfl (by rfl) (by rfl) (by rfl) (by first | omega | (constructor <;> first | omega | decide)) (fun v27 => ?_)
        refine Imp.own_is v27 (fun hs27 => ?_)
        obtain ⟨oa27, cp27, rfl⟩ := hs27
        refine o_st rfl inf140 rfl rfl rfl rfl rfl rfl rfl rfl ?_
        refine o_nil ?_
        repeat (first | with_reducible refine r_then ?_ | with_reducible refine r_in_normal ?_ | with_reducible refine r_sc_normal ?_)
        refine r_region ?_
        refine o_q _ rfl rfl rfl (v_add rfl rfl rfl (by omega)) ?_
        refine o_q _ rfl rfl rfl (v_move rfl rfl) ?_
        refine o_nil ?_
        repeat (first | with_reducible refine r_then ?_ | with_reducible refine r_in_normal ?_ | with_reducible refine r_sc_normal ?_)
        first
        | exact r_next ((k + 1, .slice oa27 (xs ++ [(oa, (sureF selW F k).length, cp)]).length cp27, xs ++ [(oa, (sureF selW F k).length, cp)])) (by refine Imp.box_to b6 [.slice oa27 (xs ++ [(oa, (sureF selW F k).length, cp)]).length cp27] rfl ?_; refine Imp.derive (ψ := allRows F (xs ++ [(oa, (sureF selW F k).length, cp)])) ?_ (fun V hV => allRows_add (hV (allRows F xs) InR.mem) (by rw [hlx]; exact hV (rowD oa 3 encT (sureF selW F k)) InR.mem)); exact r_here (by repeat (first | exact FSub.nil | refine FSub.cons rfl ?_)) SelMC.sel SubRC.sub) (by exact ⟨by show k + 1 ≤ _; omega, by simp [hlx], Rows_add hR (by omega) (by rw [hlx])⟩) (by show _ - (k + 1) < _ - k; omega)
    ·
      first
      | (exfalso; revert hc18; decide)
      | (exfalso; omega)
      | skip
        refine r_exit ?_
        repeat (first | with_reducible refine r_then_exit ?_ | with_reducible refine r_sc_exit ?_ | with_reducible refine r_in_here ?_ | (with_reducible refine r_in_past (by decide) ?_) | with_reducible refine r_then ?_ | with_reducible refine r_in_normal ?_ | with_reducible refine r_sc_normal ?_)
        refine r_seq ?_
        refine Imp.settleS v encO_len (fun sa sc hv => ?_)
        subst hv
        have hxl : xs.length = F.heaps.length := by omega
        refine Imp.box_to b6 [.slice sa xs.length sc] rfl ?_
        refine Imp.sealB b6 ?_
        refine r_region ?_
        refine o_makeMap (k := 115) (okW F men) rfl rfl rfl rfl (fun mb => ?_)
        refine o_alloc rfl inf141 rfl rfl rfl rfl rfl (fun b8 => ?_)
        refine o_st rfl inf141 rfl rfl rfl rfl rfl rfl rfl rfl ?_
        refine o_nil ?_
        repeat (first | with_reducible refine r_then ?_ | with_reducible refine r_in_normal ?_ | with_reducible refine r_sc_normal ?_)
        refine r_seq ?_
        refine Imp.box_to b8 [.map (some mb)] rfl ?_
        refine Imp.sealB b8 ?_
        refine r_region ?_
        refine o_alloc rfl inf112 rfl rfl rfl rfl rfl (fun b9 => ?_)
        refine o_nil ?_
        repeat (first | with_reducible refine r_then ?_ | with_reducible refine r_in_normal ?_ | with_reducible refine r_sc_normal ?_)
        refine r_seq ?_
        refine r_region ?_
        refine o_q _ rfl rfl rfl (v_makeFunc rfl rfl rfl) ?_
        refine o_st rfl inf112 rfl rfl rfl rfl rfl rfl rfl rfl ?_
        refine o_nil ?_
        repeat (first | with_reducible refine r_then ?_ | with_reducible refine r_in_normal ?_ | with_reducible refine r_sc_normal ?_)
        refine r_seq ?_
        refine Imp.box_to b9 [.func (.func 96) #[] #[pt b2 0, pt b8 0, pt b9 0, pt b5 0, pt b6 0, pt b3 0]] rfl ?_
        refine Imp.sealB b9 ?_
        refine r_region ?_
        first | refine o_q _ rfl rfl rfl (v_ld1 rfl Try.underlying112 rfl rfl rfl) ?_ | refine o_q _ rfl rfl rfl (v_lf1 rfl Try.underlying112 rfl rfl rfl) ?_ | refine o_q _ rfl rfl rfl (v_loadE1 rfl Try.underlying112 rfl rfl (by omega) rfl rfl) ?_
        refine o_q _ rfl rfl rfl (v_assign rfl rfl) ?_
        refine o_nil ?_
        repeat (first | with_reducible refine r_then ?_ | with_reducible refine r_in_normal ?_ | with_reducible refine r_sc_normal ?_)
        refine r_ret ?_
        repeat (first | with_reducible refine r_then_ret ?_ | with_reducible refine r_in_ret ?_ | with_reducible refine r_sc_ret ?_)
        exact r_rete [memo Try.prog 115 (okW F men) mb] [boxF b2 81 [pt fb 0], boxF b8 141 [.map (some mb)], boxF b9 112 [.func (.func 96) #[] #[pt b2 0, pt b8 0, pt b9 0, pt b5 0, pt b6 0, pt b3 0]], boxF b5 27 [i64 (-1), i64 (-1), i64 (-1)], boxF b6 140 [.slice sa xs.length sc], boxF b3 3 [i64 men], rowD sa 1 encO xs, allRows F xs, boxF fb 126 (cellsF F ro rc ho hc), rowD ro 2 encS F.rain, rowD ho 3 encH F.heaps] (Rd.tmp rfl rfl) ⟨_, _, rfl, rfl, _, [pt b2 0, pt b8 0, pt b9 0, pt b5 0, pt b6 0, pt b3 0], rfl, fun x hx => best1_m F ro ho rc hc fb men hg b2 b8 b9 b5 b6 b3 mb sa sc xs hxl hR x.2.1 x.1 x.2.2 hx.1 hx.2.1 hx.2.2⟩ SelMC.sel (SubR.append SubRC.sub SubRC.sub)
theorem oneCells_cons (x : Int) (xs : List Int) : oneCells (i64 x :: xs.map iv) = true := oneCells_map (x :: xs)
set_option maxHeartbeats 4000000 in
theorem Best_s (F : Work) (ro ho : Option Addr) (rc hc : Nat) (hr : F.rain.length ≤ 40) (hh : F.heaps.length ≤ 40) : FnS Try.prog 26 [valF F ro rc ho hc] [] [rowD ro 2 encS F.rain, rowD ho 3 encH F.heaps] (fun e M' R' => ∃ v, e = .returned (.tuple #[i64 (bestP F).1, v, i64 (bestP F).2.2]) ∧ M' = [ownL v 27 3 encT (bestP F).2.1] ∧ R' = []) := by
  refine FnS.introD0 Try.call26 Try.func26 rfl Try.ntmps26 rfl ?_
  intro W M Rf
  refine r_seq ?_
  refine r_region ?_
  refine o_boxA rfl rfl rfl rfl rfl (fun b1 => ?_)
  refine o_q _ rfl rfl rfl (v_assign rfl rfl) ?_
  refine o_q _ rfl rfl rfl (v_assign rfl rfl) ?_
  refine o_alloc rfl inf32 rfl rfl rfl rfl rfl (fun b4 => ?_)
  refine o_nil ?_
  repeat (first | with_reducible refine r_then ?_ | with_reducible refine r_in_normal ?_ | with_reducible refine r_sc_normal ?_)
  refine r_seq ?_
  refine r_region ?_
  refine o_defer rfl rfl rfl rfl ?_
  refine o_nil ?_
  repeat (first | with_reducible refine r_then ?_ | with_reducible refine r_in_normal ?_ | with_reducible refine r_sc_normal ?_)
  refine r_seq ?_
  refine Imp.sealB b1 ?_
  refine r_region ?_
  first | refine o_q _ rfl rfl rfl (v_ldW rfl Try.underlying26 rfl inf26 rfl rfl) ?_ | refine o_q _ rfl rfl rfl (v_lfW rfl Try.underlying26 rfl inf26 rfl rfl) ?_ | refine o_q _ rfl rfl rfl (v_lfN rfl Try.underlying26 rfl inf26 rfl rfl rfl) ?_ | refine o_q _ rfl rfl rfl (v_ldN rfl Try.underlying26 rfl inf26 rfl rfl rfl) ?_ | refine o_q _ rfl rfl rfl (v_loadEN rfl Try.underlying26 rfl inf26 rfl (by omega) rfl rfl rfl) ?_
  by_cases hg : GoodF F
  all_goals
    first | refine o_fnp (open_ok F ro ho rc hc hr hh hg) rfl rfl rfl rfl rfl SubRC.sub (fun fb => ?_) | refine o_fnx (open_x F ro ho rc hc _ hr hh (by exact chk_ne hg)) rfl rfl rfl SubRC.sub ?_
    all_goals
      repeat (first | with_reducible refine r_then_panic ?_ | with_reducible refine r_in_panic ?_ | with_reducible refine r_sc_panic ?_)
      try (refine Imp.nilL 27 3 encT ?_; exact d_pane [ownL (.slice none 0 0) 27 3 encT []] [] answer_ans (Rd.three rfl (RdI.tmp rfl) (RdI.tmp rfl) (RdI.cell1 Try.underlying32 rfl rfl rfl)) (by rw [bestP_bad hg]; exact ⟨_, by rw [chk_1 hg], rfl, rfl⟩) SelMC.sel SubRC.sub)
      all_goals
        refine o_q _ rfl rfl rfl (v_assign rfl rfl) ?_
        refine o_nil ?_
        repeat (first | with_reducible refine r_then ?_ | with_reducible refine r_in_normal ?_ | with_reducible refine r_sc_normal ?_)
        refine r_seq ?_
        have hb := hg.bnd
        have hl3 := hg.2.2.1
        refine r_region ?_
        refine o_q _ rfl rfl rfl (v_move rfl rfl) ?_
        first | refine o_q _ rfl rfl rfl (v_fieldAddr rfl Try.underlying26 inf3 rfl rfl rfl rfl) ?_ | refine o_q _ rfl rfl rfl (v_fieldAddrE rfl Try.underlying26 inf3 rfl rfl rfl rfl) ?_
        first | refine o_q _ rfl rfl rfl (v_ld1 rfl Try.underlying3 rfl rfl rfl) ?_ | refine o_q _ rfl rfl rfl (v_lf1 rfl Try.underlying3 rfl rfl rfl) ?_ | refine o_q _ rfl rfl rfl (v_loadE1 rfl Try.underlying3 rfl rfl (by omega) rfl rfl) ?_
        refine o_fnk (best_s F ro ho rc hc fb F.men hg) rfl rfl rfl rfl rfl SubRC.sub (fun kk caps m Rs hk => ?_)
        all_goals
          refine o_q _ rfl rfl rfl (v_assign rfl rfl) ?_
          refine o_nil ?_
          repeat (first | with_reducible refine r_then ?_ | with_reducible refine r_in_normal ?_ | with_reducible refine r_sc_normal ?_)
          refine r_seq ?_
          refine r_region ?_
          refine o_alloc rfl inf115 rfl rfl rfl rfl rfl (fun b7 => ?_)
          refine o_nil ?_
          repeat (first | with_reducible refine r_then ?_ | with_reducible refine r_in_normal ?_ | with_reducible refine r_sc_normal ?_)
          refine r_seq ?_
          refine r_region ?_
          first | refine o_q _ rfl rfl rfl (v_fieldAddr rfl Try.underlying26 inf24 rfl rfl rfl rfl) ?_ | refine o_q _ rfl rfl rfl (v_fieldAddrE rfl Try.underlying26 inf24 rfl rfl rfl rfl) ?_
          first | refine o_q _ rfl rfl rfl (v_ld1 rfl Try.underlying24 rfl rfl rfl) ?_ | refine o_q _ rfl rfl rfl (v_lf1 rfl Try.underlying24 rfl rfl rfl) ?_ | refine o_q _ rfl rfl rfl (v_loadE1 rfl Try.underlying24 rfl rfl (by omega) rfl rfl) ?_
          refine o_q _ rfl rfl rfl (v_len rfl rfl Try.underlying24 rfl) ?_
          refine o_make (enc := encT) (sz := 3) (⟨0, 0, 0⟩ : T3) rfl Try.underlying40 inf27 rfl rfl rfl rfl rfl rfl rfl (l := 0) rfl rfl (by omega) (by constructor <;> first | omega | decide) (fun b21 => ?_)
          all_goals
            refine o_q _ rfl rfl rfl (v_assign rfl rfl) ?_
            refine o_nil ?_
            repeat (first | with_reducible refine r_then ?_ | with_reducible refine r_in_normal ?_ | with_reducible refine r_sc_normal ?_)
            refine r_seq ?_
            refine r_region ?_
            refine o_q _ rfl rfl rfl (v_move rfl rfl) ?_
            refine o_q _ rfl rfl rfl (v_ldW rfl Try.underlying115 rfl inf115 rfl rfl) ?_
            refine o_q _ rfl rfl rfl (OpQ.fnm (hk (0, F.heaps.length, zeros) ⟨by simp, rfl, small_zeros _ (by simp)⟩) rfl [] caps rfl rfl rfl SubRC.sub) ?_
            refine o_q _ rfl rfl rfl (v_field rfl Try.underlying117 Try.underlying3 inf3 rfl rfl rfl rfl) ?_
            refine o_q _ rfl rfl rfl (v_assign rfl rfl) ?_
            refine o_nil ?_
            repeat (first | with_reducible refine r_then ?_ | with_reducible refine r_in_normal ?_ | with_reducible refine r_sc_normal ?_)
            refine r_seq ?_
            refine r_block ?_
            refine r_loop (ι := Nat × Value) (fun gh => gh.1 ≤ F.heaps.length) (fun gh => [(1, pt b1 0), (4, pt b4 0), (6, .func (.func kk) #[] caps.toArray), (7, pt b7 0), (8, gh.2), (9, i64 (bestS F F.men))]) (fun gh => ownL gh.2 27 3 encT (stW F F.men gh.1).2 :: bx b7 115 (i64 ((gh.1 : Nat) : Int) :: (stW F F.men gh.1).1.map iv) :: bx b4 32 [i64 0] :: m :: M) (fun gh => Rs ++ (boxF fb 126 (cellsF F ro rc ho hc) :: boxF b1 26 (cellsF F ro rc ho hc) :: ([rowD ro 2 encS F.rain, rowD ho 3 encH F.heaps] ++ Rf))) (fun gh => F.heaps.length - gh.1) (0, .slice (some ⟨b21, 0, none⟩) 0 F.heaps.length) ?_ ?_ ?_
            ·
              refine Imp.own_to (.slice (some ⟨b21, 0, none⟩) 0 F.heaps.length) (stW F F.men 0).2 rfl ?_
              refine Imp.box_to b7 (i64 ((0 : Nat) : Int) :: (stW F F.men 0).1.map iv) rfl ?_
              refine Imp.box_to b4 [i64 0] rfl ?_
              exact r_here (by repeat (first | exact FSub.nil | refine FSub.cons rfl ?_)) SelMC.sel SubRC.sub
            ·
              exact Nat.zero_le _
            ·
              rintro ⟨k, v⟩ hI0
              dsimp only at hI0
              dsimp only
              have hI : k ≤ F.heaps.length := hI0
              have hsl := (stW_len F F.men k).2
              refine r_seq ?_
              refine r_seq ?_
              refine r_region ?_
              first | refine o_q _ rfl rfl rfl (v_fieldAddr rfl Try.underlying115 inf3 rfl rfl rfl rfl) ?_ | refine o_q _ rfl rfl rfl (v_fieldAddrE rfl Try.underlying115 inf3 rfl rfl rfl rfl) ?_
              first | refine o_q _ rfl rfl rfl (v_ld1 rfl Try.underlying3 rfl rfl rfl) ?_ | refine o_q _ rfl rfl rfl (v_lf1 rfl Try.underlying3 rfl rfl rfl) ?_ | refine o_q _ rfl rfl rfl (v_loadE1 rfl Try.underlying3 rfl rfl (by omega) rfl rfl) ?_
              first | refine o_q _ rfl rfl rfl (v_fieldAddr rfl Try.underlying26 inf24 rfl rfl rfl rfl) ?_ | refine o_q _ rfl rfl rfl (v_fieldAddrE rfl Try.underlying26 inf24 rfl rfl rfl rfl) ?_
              first | refine o_q _ rfl rfl rfl (v_ld1 rfl Try.underlying24 rfl rfl rfl) ?_ | refine o_q _ rfl rfl rfl (v_lf1 rfl Try.underlying24 rfl rfl rfl) ?_ | refine o_q _ rfl rfl rfl (v_loadE1 rfl Try.underlying24 rfl rfl (by omega) rfl rfl) ?_
              refine o_q _ rfl rfl rfl (v_len rfl rfl Try.underlying24 rfl) ?_
              refine o_q _ rfl rfl rfl (v_lss rfl rfl rfl) ?_
              refine o_nil ?_
              repeat (first | with_reducible refine r_then ?_ | with_reducible refine r_in_normal ?_ | with_reducible refine r_sc_normal ?_)
              first | refine r_condd rfl (fun hc31 => ?_) (fun hc31 => ?_) | refine r_cond rfl (fun hc31 => ?_) (fun hc31 => ?_)
              ·
                first
                | (exfalso; revert hc31; decide)
                | (exfalso; omega)
                | skip
                  refine r_skip ?_
                  repeat (first | with_reducible refine r_then ?_ | with_reducible refine r_in_normal ?_ | with_reducible refine r_sc_normal ?_)
                  refine r_block ?_
                  refine r_seq ?_
                  refine r_region ?_
                  refine o_q _ rfl rfl rfl (v_move rfl rfl) ?_
                  refine o_q _ rfl rfl rfl (v_ldW rfl Try.underlying115 rfl inf115 rfl (by rw [List.length_cons, List.length_map, (stW_len F F.men k).1]; rfl)) ?_
                  refine o_q _ rfl rfl rfl (OpQ.fnm (hk (k, F.heaps.length - k, (stW F F.men k).1) ⟨by show k + (F.heaps.length - k) = _; omega, (stW_len F F.men k).1, stW_small F F.men k⟩) rfl [] caps rfl rfl rfl SubRC.sub) ?_
                  refine o_alloc rfl inf117 rfl rfl rfl rfl rfl (fun b10 => ?_)
                  refine o_st rfl inf117 rfl rfl rfl rfl rfl rfl rfl rfl ?_
                  refine o_nil ?_
                  repeat (first | with_reducible refine r_then ?_ | with_reducible refine r_in_normal ?_ | with_reducible refine r_sc_normal ?_)
                  refine r_seq ?_
                  refine r_region ?_
                  refine o_q _ rfl rfl rfl (v_move rfl rfl) ?_
                  first | refine o_q _ rfl rfl rfl (v_fieldAddr rfl Try.underlying117 inf27 rfl rfl rfl rfl) ?_ | refine o_q _ rfl rfl rfl (v_fieldAddrE rfl Try.underlying117 inf27 rfl rfl rfl rfl) ?_
                  first | refine o_q _ rfl rfl rfl (v_ldW rfl Try.underlying27 rfl inf27 rfl rfl) ?_ | refine o_q _ rfl rfl rfl (v_lfW rfl Try.underlying27 rfl inf27 rfl rfl) ?_ | refine o_q _ rfl rfl rfl (v_lfN rfl Try.underlying27 rfl inf27 rfl rfl rfl) ?_ | refine o_q _ rfl rfl rfl (v_ldN rfl Try.underlying27 rfl inf27 rfl rfl rfl) ?_ | refine o_q _ rfl rfl rfl (v_loadEN rfl Try.underlying27 rfl inf27 rfl (by omega) rfl rfl rfl) ?_
                  refine o_lit rfl Try.underlying40 inf27 rfl rfl rfl rfl rfl rfl rfl rfl (by repeat (first | exact trivial | refine ⟨rfl, ?_⟩)) (by rfl) (fun b38 => ?_)
                  refine o_app1 ((bestW F F.men (F.heaps.length - k) (stW F F.men k).1).plan) rfl Try.underlying40 inf27 rfl (by rfl) (by rfl) rfl rfl rfl rfl rfl (by rfl) (by rfl) (by rfl) (by first | omega | (constructor <;> first | omega | decide)) (fun v39 => ?_)
                  refine o_q _ rfl rfl rfl (v_assign rfl rfl) ?_
                  refine o_nil ?_
                  repeat (first | with_reducible refine r_then ?_ | with_reducible refine r_in_normal ?_ | with_reducible refine r_sc_normal ?_)
                  refine r_par' 8 mixed (by kernel_rfl) (by rfl) ?_
                  first | refine p_q _ rfl rfl rfl (fun _ _ => v_fieldAddr rfl Try.underlying115 inf3 rfl rfl rfl rfl) ?_ | refine p_q _ rfl rfl rfl (fun _ _ => v_fieldAddrE rfl Try.underlying115 inf3 rfl rfl rfl rfl) ?_
                  first | refine p_q _ rfl rfl rfl (fun _ _ => v_ld1 rfl Try.underlying3 rfl rfl rfl) ?_ | refine p_q _ rfl rfl rfl (fun _ _ => v_lf1 rfl Try.underlying3 rfl rfl rfl) ?_ | refine p_q _ rfl rfl rfl (fun _ _ => v_loadE1 rfl Try.underlying3 rfl rfl (by omega) rfl rfl) ?_
                  refine p_q _ rfl rfl rfl (fun _ _ => v_add rfl rfl rfl (by omega)) ?_
                  first | refine p_q _ rfl rfl rfl (fun _ _ => v_fieldAddr rfl Try.underlying115 inf107 rfl rfl rfl rfl) ?_ | refine p_q _ rfl rfl rfl (fun _ _ => v_fieldAddrE rfl Try.underlying115 inf107 rfl rfl rfl rfl) ?_
                  refine p_q _ rfl rfl rfl (fun _ _ => v_ldN (us := (stW F F.men k).1.map iv) rfl Try.underlying107 rfl inf107 rfl (take8 (stW_len F F.men k).1) (by rw [List.length_map, (stW_len F F.men k).1]; rfl)) ?_
                  first | refine p_q _ rfl rfl rfl (fun _ _ => v_fieldAddr rfl Try.underlying117 inf27 rfl rfl rfl rfl) ?_ | refine p_q _ rfl rfl rfl (fun _ _ => v_fieldAddrE rfl Try.underlying117 inf27 rfl rfl rfl rfl) ?_
                  first | refine p_q _ rfl rfl rfl (fun _ _ => v_ldW rfl Try.underlying27 rfl inf27 rfl rfl) ?_ | refine p_q _ rfl rfl rfl (fun _ _ => v_lfW rfl Try.underlying27 rfl inf27 rfl rfl) ?_ | refine p_q _ rfl rfl rfl (fun _ _ => v_lfN rfl Try.underlying27 rfl inf27 rfl rfl rfl) ?_ | refine p_q _ rfl rfl rfl (fun _ _ => v_ldN rfl Try.underlying27 rfl inf27 rfl rfl rfl) ?_ | refine p_q _ rfl rfl rfl (fun _ _ => v_loadEN rfl Try.underlying27 rfl inf27 rfl (by omega) rfl rfl rfl) ?_
                  refine p_q _ rfl rfl rfl (fun _ _ => OpQ.fn (with_v (stW F F.men k).1 _ _ _ (stW_len F F.men k).1 (fun i => by have := stW_small F F.men k i; omega) (fun j hj => (bestW_plan hb.len F.men (F.heaps.length - k) (stW F F.men k).1 (by omega) j hj).2)) rfl rfl SubRC.sub) ?_
                  refine p_nil2 (by simp only [List.nil_append, List.cons_append]; rfl) ?_
                  refine f_q rfl ?_
                  refine f_q rfl ?_
                  refine f_q rfl ?_
                  refine f_q rfl ?_
                  refine f_q rfl ?_
                  refine f_q rfl ?_
                  refine f_q rfl ?_
                  refine f_q rfl ?_
                  refine f_nil ?_
                  refine o_q _ rfl rfl rfl (mk115 rfl rfl rfl (by rw [with_len, (stW_len F F.men k).1])) ?_
                  refine o_st (B := 115) (vs := (i64 ((k : Nat) : Int) :: (stW F F.men k).1.map iv)) (us := i64 ((k + 1 : Nat) : Int) :: (with_ (stW F F.men k).1 (bestW F F.men (F.heaps.length - k) (stW F F.men k).1).plan).map iv) rfl inf115 rfl rfl rfl rfl rfl (by rw [List.length_cons, List.length_map, with_len, (stW_len F F.men k).1]; rfl) (oneCells_cons _ _) (by rw [List.length_cons, List.length_cons, List.length_map, List.length_map, with_len]; simp [(stW_len F F.men k).1]) ?_
                  refine o_nil ?_
                  repeat (first | with_reducible refine r_then ?_ | with_reducible refine r_in_normal ?_ | with_reducible refine r_sc_normal ?_)
                  first
                  | exact r_next ((k + 1, v39)) (by refine Imp.box_to b7 (i64 (((k + 1) : Nat) : Int) :: (stW F F.men (k + 1)).1.map iv) (by show splice _ 0 _ = _; rw [splice_all (by rw [List.length_cons, List.length_cons, List.length_map, List.length_map, with_len])]; rfl) ?_; refine Imp.own_to v39 (stW F F.men (k + 1)).2 rfl ?_; exact r_here (by repeat (first | exact FSub.nil | refine FSub.cons rfl ?_)) SelMC.sel SubRC.sub) (by first | omega | (show _ + 1 ≤ _; omega)) (by first | omega | (show _ - (_ + 1) < _ - _; omega))
              ·
                first
                | (exfalso; revert hc31; decide)
                | (exfalso; omega)
                | skip
                  refine r_exit ?_
                  repeat (first | with_reducible refine r_then_exit ?_ | with_reducible refine r_sc_exit ?_ | with_reducible refine r_in_here ?_ | (with_reducible refine r_in_past (by decide) ?_) | with_reducible refine r_then ?_ | with_reducible refine r_in_normal ?_ | with_reducible refine r_sc_normal ?_)
                  refine r_seq ?_
                  refine Imp.own_to v (stW F F.men F.heaps.length).2 (by rw [show k = F.heaps.length from by omega]) ?_
                  refine Imp.settleS v encT_len (fun oa cp hv => ?_)
                  subst hv
                  have hsl := (stW_len F F.men F.heaps.length).2
                  refine r_region ?_
                  refine o_q _ rfl rfl rfl (v_move rfl rfl) ?_
                  refine o_q _ rfl rfl rfl (v_len rfl rfl Try.underlying40 rfl) ?_
                  refine o_make (enc := encT) (sz := 3) (⟨0, 0, 0⟩ : T3) rfl Try.underlying40 inf27 rfl rfl rfl rfl rfl rfl rfl rfl rfl (by omega) (by constructor <;> first | omega | decide) (fun b51 => ?_)
                  all_goals
                    refine o_q _ rfl rfl rfl (v_assign rfl rfl) ?_
                    refine o_nil ?_
                    repeat (first | with_reducible refine r_then ?_ | with_reducible refine r_in_normal ?_ | with_reducible refine r_sc_normal ?_)
                    refine r_seq ?_
                    refine r_region ?_
                    refine o_q _ rfl rfl rfl (v_move rfl rfl) ?_
                    refine o_q _ rfl rfl rfl (v_move rfl rfl) ?_
                    refine o_copy (enc := encT) (sz := 3) (xs := List.replicate (stW F F.men F.heaps.length).2.length ⟨0, 0, 0⟩) (ys := (stW F F.men F.heaps.length).2) rfl Try.underlying40 inf27 rfl rfl rfl rfl encT_len oneT rfl rfl rfl (by simp) ?_
                    all_goals
                      refine o_nil ?_
                      repeat (first | with_reducible refine r_then ?_ | with_reducible refine r_in_normal ?_ | with_reducible refine r_sc_normal ?_)
                      refine r_seq ?_
                      refine r_region ?_
                      refine o_q _ rfl rfl rfl (v_move rfl rfl) ?_
                      refine o_q _ rfl rfl rfl (v_move rfl rfl) ?_
                      refine o_q _ rfl rfl rfl (v_assign rfl rfl) ?_
                      refine o_q _ rfl rfl rfl (v_assign rfl rfl) ?_
                      refine o_st rfl inf32 rfl rfl rfl rfl rfl rfl rfl rfl ?_
                      refine o_nil ?_
                      repeat (first | with_reducible refine r_then ?_ | with_reducible refine r_in_normal ?_ | with_reducible refine r_sc_normal ?_)
                      refine r_ret ?_
                      repeat (first | with_reducible refine r_then_ret ?_ | with_reducible refine r_in_ret ?_ | with_reducible refine r_sc_ret ?_)
                      exact d_rete [ownL (.slice (some ⟨b51, 0, none⟩) (stW F F.men F.heaps.length).2.length (stW F F.men F.heaps.length).2.length) 27 3 encT (stW F F.men F.heaps.length).2] [] answer_ans (Rd.three rfl (RdI.tmp rfl) (RdI.tmp rfl) (RdI.cell1 Try.underlying32 rfl rfl rfl)) (by rw [bestP_ok hg]; exact ⟨_, rfl, rfl, rfl⟩) SelMC.sel SubRC.sub
theorem men_lt {F : Work} {k : Nat} (h : k ≤ 3) (hx : bestS F (k : Int) < bestS F 3) : k + 1 ≤ 3 := by
  have : k ≠ 3 := fun e => by subst e; exact absurd hx (Int.lt_irrefl _)
  omega
set_option maxHeartbeats 4000000 in
theorem Men_v (F : Work) (ro ho : Option Addr) (rc hc : Nat) (hr : F.rain.length ≤ 40) (hh : F.heaps.length ≤ 40) : FnV Try.prog 28 [valF F ro rc ho hc] [rowD ro 2 encS F.rain, rowD ho 3 encH F.heaps] (.tuple #[i64 (menP F).1, i64 (menP F).2.1, i64 (menP F).2.2]) := by
  refine FnV.introD Try.call28 Try.func28 rfl Try.ntmps28 rfl ?_
  intro W M Rf
  refine r_seq ?_
  refine r_region ?_
  refine o_boxA rfl rfl rfl rfl rfl (fun b1 => ?_)
  refine o_q _ rfl rfl rfl (v_assign rfl rfl) ?_
  refine o_q _ rfl rfl rfl (v_assign rfl rfl) ?_
  refine o_alloc rfl inf32 rfl rfl rfl rfl rfl (fun b4 => ?_)
  refine o_nil ?_
  repeat (first | with_reducible refine r_then ?_ | with_reducible refine r_in_normal ?_ | with_reducible refine r_sc_normal ?_)
  refine r_seq ?_
  refine r_region ?_
  refine o_defer rfl rfl rfl rfl ?_
  refine o_nil ?_
  repeat (first | with_reducible refine r_then ?_ | with_reducible refine r_in_normal ?_ | with_reducible refine r_sc_normal ?_)
  refine r_seq ?_
  refine Imp.sealB b1 ?_
  refine r_region ?_
  first | refine o_q _ rfl rfl rfl (v_ldW rfl Try.underlying26 rfl inf26 rfl rfl) ?_ | refine o_q _ rfl rfl rfl (v_lfW rfl Try.underlying26 rfl inf26 rfl rfl) ?_ | refine o_q _ rfl rfl rfl (v_lfN rfl Try.underlying26 rfl inf26 rfl rfl rfl) ?_ | refine o_q _ rfl rfl rfl (v_ldN rfl Try.underlying26 rfl inf26 rfl rfl rfl) ?_ | refine o_q _ rfl rfl rfl (v_loadEN rfl Try.underlying26 rfl inf26 rfl (by omega) rfl rfl rfl) ?_
  by_cases hg : GoodF F
  all_goals
    first | refine o_fnp (open_ok F ro ho rc hc hr hh hg) rfl rfl rfl rfl rfl SubRC.sub (fun fb => ?_) | refine o_fnx (open_x F ro ho rc hc _ hr hh (by exact chk_ne hg)) rfl rfl rfl SubRC.sub ?_
    all_goals
      repeat (first | with_reducible refine r_then_panic ?_ | with_reducible refine r_in_panic ?_ | with_reducible refine r_sc_panic ?_)
      try ((rw [menP_bad hg]; exact d_panv answer_ans (Rd.three rfl (RdI.tmp rfl) (RdI.tmp rfl) (RdI.cell1 Try.underlying32 rfl rfl rfl)) (by rw [chk_1 hg]) SelMC.sel SubRC.sub))
      all_goals
        refine o_q _ rfl rfl rfl (v_assign rfl rfl) ?_
        refine o_nil ?_
        repeat (first | with_reducible refine r_then ?_ | with_reducible refine r_in_normal ?_ | with_reducible refine r_sc_normal ?_)
        refine r_seq ?_
        have hb := hg.bnd
        have hl3 := hg.2.2.1
        refine r_region ?_
        refine o_q _ rfl rfl rfl (v_move rfl rfl) ?_
        refine o_fnk (best_s F ro ho rc hc fb 3 hg) rfl rfl rfl rfl rfl SubRC.sub (fun kk caps m Rs hk => ?_)
        all_goals
          refine o_q _ rfl rfl rfl (v_bS0 rfl Try.underlying115 inf115 plt115 rfl rfl) ?_
          refine o_q _ rfl rfl rfl (OpQ.fnm (hk (0, F.heaps.length, zeros) ⟨by simp, rfl, small_zeros _ (by simp)⟩) rfl [] caps rfl rfl rfl SubRC.sub) ?_
          refine o_q _ rfl rfl rfl (v_field rfl Try.underlying117 Try.underlying3 inf3 rfl rfl rfl rfl) ?_
          refine o_q _ rfl rfl rfl (v_assign rfl rfl) ?_
          refine o_nil ?_
          repeat (first | with_reducible refine r_then ?_ | with_reducible refine r_in_normal ?_ | with_reducible refine r_sc_normal ?_)
          refine r_seq ?_
          refine r_region ?_
          refine o_q _ rfl rfl rfl (v_assign rfl rfl) ?_
          refine o_nil ?_
          repeat (first | with_reducible refine r_then ?_ | with_reducible refine r_in_normal ?_ | with_reducible refine r_sc_normal ?_)
          refine r_seq ?_
          refine r_block ?_
          refine r_loop (ι := Nat) (fun k => k ≤ 3 ∧ ∀ j, j < k → ¬ enough F j) (fun k => [(1, pt b1 0), (4, pt b4 0), (5, pt fb 0), (6, i64 (bestS F 3)), (7, i64 k)]) (fun k => bx b4 32 [i64 0] :: M) (fun k => boxF fb 126 (cellsF F ro rc ho hc) :: boxF b1 26 (cellsF F ro rc ho hc) :: ([rowD ro 2 encS F.rain, rowD ho 3 encH F.heaps] ++ Rf)) (fun k => 3 - k) 0 ?_ ?_ ?_
          ·
            refine Imp.box_to b4 [i64 0] rfl ?_
            exact r_here (by repeat (first | exact FSub.nil | refine FSub.cons rfl ?_)) SelMC.sel SubRC.sub
          ·
            exact ⟨by omega, fun j hj => absurd hj (by omega)⟩
          ·
            rintro k hI0
            have hI : k ≤ 3 := hI0.1
            refine r_seq ?_
            refine r_seq ?_
            refine r_region ?_
            refine o_q _ rfl rfl rfl (v_move rfl rfl) ?_
            refine o_q _ rfl rfl rfl (v_move rfl rfl) ?_
            refine o_fnk (best_s F ro ho rc hc fb (k : Int) hg) rfl rfl rfl rfl rfl SubRC.sub (fun kk2 caps2 m2 Rs2 hk2 => ?_)
            all_goals
              refine o_q _ rfl rfl rfl (v_bS0 rfl Try.underlying115 inf115 plt115 rfl rfl) ?_
              refine o_q _ rfl rfl rfl (OpQ.fnm (hk2 (0, F.heaps.length, zeros) ⟨by simp, rfl, small_zeros _ (by simp)⟩) rfl [] caps2 rfl rfl rfl SubRC.sub) ?_
              refine o_q _ rfl rfl rfl (v_field rfl Try.underlying117 Try.underlying3 inf3 rfl rfl rfl rfl) ?_
              refine o_q _ rfl rfl rfl (v_move rfl rfl) ?_
              refine o_q _ rfl rfl rfl (v_lss rfl rfl rfl) ?_
              refine o_nil ?_
              repeat (first | with_reducible refine r_then ?_ | with_reducible refine r_in_normal ?_ | with_reducible refine r_sc_normal ?_)
              first | refine r_condd rfl (fun hc22 => ?_) (fun hc22 => ?_) | refine r_cond rfl (fun hc22 => ?_) (fun hc22 => ?_)
              ·
                first
                | (exfalso; revert hc22; decide)
                | (exfalso; omega)
                | skip
                  refine r_skip ?_
                  repeat (first | with_reducible refine r_then ?_ | with_reducible refine r_in_normal ?_ | with_reducible refine r_sc_normal ?_)
                  refine r_block ?_
                  refine r_region ?_
                  refine o_q _ rfl rfl rfl (v_move rfl rfl) ?_
                  refine o_q _ rfl rfl rfl (v_add rfl rfl rfl (by omega)) ?_
                  refine o_q _ rfl rfl rfl (v_assign rfl rfl) ?_
                  refine o_nil ?_
                  repeat (first | with_reducible refine r_then ?_ | with_reducible refine r_in_normal ?_ | with_reducible refine r_sc_normal ?_)
                  refine r_next (k + 1) ?_ ?_ ?_
                  ·
                    exact r_here (by repeat (first | exact FSub.nil | refine FSub.cons rfl ?_)) SelMC.sel SubRC.sub
                  ·
                    exact ⟨men_lt hI (by assumption), all_step hI0.2 (fun x => x (by assumption))⟩
                  ·
                    have := men_lt hI (by assumption)
                    omega
              ·
                first
                | (exfalso; revert hc22; decide)
                | (exfalso; omega)
                | skip
                  refine r_exit ?_
                  repeat (first | with_reducible refine r_then_exit ?_ | with_reducible refine r_sc_exit ?_ | with_reducible refine r_in_here ?_ | (with_reducible refine r_in_past (by decide) ?_) | with_reducible refine r_then ?_ | with_reducible refine r_in_normal ?_ | with_reducible refine r_sc_normal ?_)
                  refine r_seq ?_
                  refine r_region ?_
                  refine o_q _ rfl rfl rfl (v_move rfl rfl) ?_
                  refine o_q _ rfl rfl rfl (v_move rfl rfl) ?_
                  refine o_q _ rfl rfl rfl (v_assign rfl rfl) ?_
                  refine o_q _ rfl rfl rfl (v_assign rfl rfl) ?_
                  refine o_st rfl inf32 rfl rfl rfl rfl rfl rfl rfl rfl ?_
                  refine o_nil ?_
                  repeat (first | with_reducible refine r_then ?_ | with_reducible refine r_in_normal ?_ | with_reducible refine r_sc_normal ?_)
                  refine r_ret ?_
                  repeat (first | with_reducible refine r_then_ret ?_ | with_reducible refine r_in_ret ?_ | with_reducible refine r_sc_ret ?_)
                  have hkm := menN_at hI (by assumption) hI0.2
                  (rw [menP_ok hg, ← hkm]; exact d_retv answer_ans (Rd.three rfl (RdI.tmp rfl) (RdI.tmp rfl) (RdI.cell1 Try.underlying32 rfl rfl rfl)) rfl SelMC.sel SubRC.sub)
end Go.Proofs.Ytienjlmnakbfmaa

namespace Go.G
variable {P : Program} {W : World} {n : Nat} {D : List Deferred} {L : Tm} {M : List Res} {R : List Fact} {Q : Exit → Act → World → Prop} {o : Oper}
theorem v_eqV {t u : TypeId} {x y : Operand} {us vs : Array Value} {r : Bool} (ho : o.op = .binOp .eql t x y u) (hx : ev L x = some (.agg us)) (hy : ev L y = some (.agg vs)) (hg : P.eqGuardType P.depth t = false) (hb : ∀ w, (Op.equal t (.agg us) (.agg vs)).run P w = .ok r w) : OpQ P W n L M R o (.bool r) :=
  OpQ.of_value fun f w h1 _ => by
    have e1 := h1.ev hx
    have e2 := h1.ev hy
    have hb1 : (binOp .eql t (.agg us) (.agg vs)).run P w = .ok (.bool r) w := by
      show Sem.run P (do pure (Value.bool (← Op.equal t (.agg us) (.agg vs)))) w = _
      simp only [Sem.run_bind, hb, Result.andThen_ok, Sem.run_pure]
    unfold execOp
    simp [ho, e1, e2, eqGuard, run_program, hg, hb1]
theorem v_neV {t u : TypeId} {x y : Operand} {us vs : Array Value} {r : Bool} (ho : o.op = .binOp .neq t x y u) (hx : ev L x = some (.agg us)) (hy : ev L y = some (.agg vs)) (hg : P.eqGuardType P.depth t = false) (hb : ∀ w, (Op.equal t (.agg us) (.agg vs)).run P w = .ok r w) : OpQ P W n L M R o (.bool (!r)) :=
  OpQ.of_value fun f w h1 _ => by
    have e1 := h1.ev hx
    have e2 := h1.ev hy
    have hb1 : (binOp .neq t (.agg us) (.agg vs)).run P w = .ok (.bool (!r)) w := by
      show Sem.run P (do pure (Value.bool (!(← Op.equal t (.agg us) (.agg vs))))) w = _
      simp only [Sem.run_bind, hb, Result.andThen_ok, Sem.run_pure]
    unfold execOp
    simp [ho, e1, e2, eqGuard, run_program, hg, hb1]
theorem v_neP {t u : TypeId} {x y : Operand} {us vs : Array Value} {p : Prop} [Decidable p] (ho : o.op = .binOp .neq t x y u) (hx : ev L x = some (.agg us)) (hy : ev L y = some (.agg vs)) (hg : P.eqGuardType P.depth t = false) (hb : ∀ w, (Op.equal t (.agg us) (.agg vs)).run P w = .ok (decide p) w) : OpQ P W n L M R o (.bool (decide (¬ p))) := by
  have := v_neV (W := W) (n := n) (L := L) (M := M) (R := R) ho hx hy hg hb
  rwa [← decide_not] at this
theorem v_eqP {t u : TypeId} {x y : Operand} {us vs : Array Value} {p : Prop} [Decidable p] (ho : o.op = .binOp .eql t x y u) (hx : ev L x = some (.agg us)) (hy : ev L y = some (.agg vs)) (hg : P.eqGuardType P.depth t = false) (hb : ∀ w, (Op.equal t (.agg us) (.agg vs)).run P w = .ok (decide p) w) : OpQ P W n L M R o (.bool (decide p)) := v_eqV ho hx hy hg hb
theorem run_partC {w : World} {t : TypeId} {d : TypeDesc} {us : Array Value} {k : Nat} {v : Value} (hu : P.underlying t = some d) (hd : aggD d = false) (hv : us[k]? = some v) : (part t us k).run P w = .ok v w := by
  have hagg := run_isAgg' (w := w) hu
  rw [hd] at hagg
  simp [part, hagg, hv]
theorem run_partA {w : World} {t : TypeId} {d : TypeDesc} {i : TypeInfo} {us : Array Value} {k : Nat} (hu : P.underlying t = some d) (hd : aggD d = true) (hi : P.info? t = some i) : (part t us k).run P w = .ok (.agg (us.extract k (k + i.size))) w := by
  have hagg := run_isAgg' (w := w) hu
  rw [hd] at hagg
  simp [part, hagg, run_sizeOf' hi]
theorem items_nil {d : Nat} {e : TypeId} {c : Nat} {us vs : Array Value} {w : World} : (Op.eqItems d e c us vs []).run P w = .ok (decide True) w := by simp [Op.eqItems]
theorem items_cons {d : Nat} {e : TypeId} {c : Nat} {us vs : Array Value} {w : World} {i : Nat} {is : List Nat} {a b : Value} {p q : Prop} [Decidable p] [Decidable q] (h1 : (part e us (i * c)).run P w = .ok a w) (h2 : (part e vs (i * c)).run P w = .ok b w) (h3 : (Op.equalIn d e a b).run P w = .ok (decide p) w) (h4 : (Op.eqItems d e c us vs is).run P w = .ok (decide q) w) :
    (Op.eqItems d e c us vs (i :: is)).run P w = .ok (decide (p ∧ q)) w := by
  simp only [Op.eqItems, Sem.run_bind, h1, h2, h3, Result.andThen_ok]
  by_cases hp : p
  · simp [hp, h4]
  · simp [hp]
theorem fields_nil {d : Nat} {us vs : Array Value} {w : World} : (Op.eqFields d us vs []).run P w = .ok (decide True) w := by simp [Op.eqFields]
theorem fields_cons {d : Nat} {us vs : Array Value} {w : World} {f : Field} {fs : List Field} {a b : Value} {p q : Prop} [Decidable p] [Decidable q] (hn : (f.name != "_") = true) (h1 : (part f.type us f.offset).run P w = .ok a w) (h2 : (part f.type vs f.offset).run P w = .ok b w) (h3 : (Op.equalIn d f.type a b).run P w = .ok (decide p) w) (h4 : (Op.eqFields d us vs fs).run P w = .ok (decide q) w) :
    (Op.eqFields d us vs (f :: fs)).run P w = .ok (decide (p ∧ q)) w := by
  have hn' : f.name ≠ "_" := by simpa using hn
  simp only [Op.eqFields, if_pos hn', Sem.run_bind, h1, h2, h3, Result.andThen_ok]
  by_cases hp : p
  · simp [hp, h4]
  · simp [hp]
theorem eq_int {d : Nat} {t : TypeId} {k k' : IntKind} {a b : Int} {w : World} (h : P.underlying t = some (.int k')) : (Op.equalIn (d + 1) t (.int k a) (.int k b)).run P w = .ok (decide (a = b)) w := by
  have e : (a == b) = decide (a = b) := by by_cases h : a = b <;> simp [h]
  rw [← e]; exact run_equalIn_int w d t k k' a b h
theorem eq_struct {d : Nat} {t : TypeId} {us vs : Array Value} {fs : Array Field} {w : World} {p : Prop} [Decidable p] (hu : P.underlying t = some (.struct fs)) (hp : P.stoodInHeld t = false) (h : (Op.eqFields d us vs fs.toList).run P w = .ok (decide p) w) : (Op.equalIn (d + 1) t (.agg us) (.agg vs)).run P w = .ok (decide p) w := by
  have hf : P.fieldsOf t = fs := by simp [Program.fieldsOf, hu]
  rw [run_equalIn_struct w d t us vs (by rw [hf]; exact hu) hp, hf]; exact h
theorem eq_array {d : Nat} {t e : TypeId} {m c : Nat} {i : TypeInfo} {us vs : Array Value} {w : World} {p : Prop} [Decidable p] (hu : P.underlying t = some (.array m e)) (hi : P.info? e = some i) (hc : P.cellsOf e = c) (h : (Op.eqItems d e c us vs (List.range m)).run P w = .ok (decide p) w) : (Op.equalIn (d + 1) t (.agg us) (.agg vs)).run P w = .ok (decide p) w := by
  subst hc
  rw [run_equalIn_array w d us vs hu hi]; exact h
theorem eq_to {t : TypeId} {us vs : Array Value} {p q : Prop} [Decidable p] [Decidable q] (h : ∀ w, (Op.equalIn (9999 + 1) t (.agg us) (.agg vs)).run P w = .ok (decide p) w) (e : p ↔ q) (w : World) : (Op.equal t (.agg us) (.agg vs)).run P w = .ok (decide q) w := by
  rw [← decide_eq_decide.2 e]; exact h w
end Go.G

namespace Go.Proofs.Ytienjlmnakbfmaa
open Go.G Foot4
theorem guard27 : Try.prog.eqGuardType Try.prog.depth 27 = false := by kernel_rfl
theorem guard31 : Try.prog.eqGuardType Try.prog.depth 31 = false := by kernel_rfl
theorem guard73 : Try.prog.eqGuardType Try.prog.depth 73 = false := by kernel_rfl
theorem cells3 : Try.prog.cellsOf 3 = 1 := by kernel_rfl
theorem pc3 {w : World} {us : Array Value} {k : Nat} {v : Value} (h : us[k]? = some v) : (part 3 us k).run Try.prog w = .ok v w := run_partC Try.underlying3 rfl h
theorem eq27 (a b c d e f : Int) (w : World) : (Op.equal 27 (.agg #[i64 a, i64 b, i64 c]) (.agg #[i64 d, i64 e, i64 f])).run Try.prog w = .ok (decide ((⟨a, b, c⟩ : T3) = ⟨d, e, f⟩)) w := by
  refine eq_to (p := a = d ∧ b = e ∧ c = f ∧ True) (fun w => ?_) (by simp) w
  refine eq_array Try.underlying27 inf3 cells3 ?_
  refine items_cons (pc3 rfl) (pc3 rfl) (eq_int Try.underlying3) (items_cons (pc3 rfl) (pc3 rfl) (eq_int Try.underlying3) (items_cons (pc3 rfl) (pc3 rfl) (eq_int Try.underlying3) items_nil))
theorem eqIn31 (dd : Nat) (a b c d : Int) (w : World) : (Op.equalIn (dd + 1 + 1) 31 (.agg #[i64 a, i64 b]) (.agg #[i64 c, i64 d])).run Try.prog w = .ok (decide (a = c ∧ b = d ∧ True)) w := by
  refine eq_struct Try.underlying31 (by kernel_rfl) ?_
  exact fields_cons rfl (pc3 rfl) (pc3 rfl) (eq_int Try.underlying3) (fields_cons rfl (pc3 rfl) (pc3 rfl) (eq_int Try.underlying3) fields_nil)
theorem eq31 (a b c d : Int) (w : World) : (Op.equal 31 (.agg #[i64 a, i64 b]) (.agg #[i64 c, i64 d])).run Try.prog w = .ok (decide ((⟨a, b⟩ : Span) = ⟨c, d⟩)) w :=
  eq_to (fun w => eqIn31 9998 a b c d w) (by simp) w
theorem eq73 (a b c d e f : Int) (w : World) : (Op.equal 73 (.agg #[i64 a, i64 b, i64 c]) (.agg #[i64 d, i64 e, i64 f])).run Try.prog w = .ok (decide ((⟨a, b, c⟩ : Heap) = ⟨d, e, f⟩)) w := by
  refine eq_to (p := (a = d ∧ b = e ∧ True) ∧ c = f ∧ True) (fun w => ?_) (by simp [and_assoc]) w
  refine eq_struct Try.underlying73 (by kernel_rfl) ?_
  exact fields_cons rfl (run_partA Try.underlying31 rfl inf31) (run_partA Try.underlying31 rfl inf31) (eqIn31 9997 a b d e w) (fields_cons rfl (pc3 rfl) (pc3 rfl) (eq_int Try.underlying3) fields_nil)
end Go.Proofs.Ytienjlmnakbfmaa

namespace Foot4
open Go Go.G
def pw : Nat → Int
  | 0 => 1
  | k + 1 => 2 * pw k
theorem pw_bd {k : Nat} (h : k ≤ 3) : 1 ≤ pw k ∧ pw k ≤ 8 := by
  obtain rfl | rfl | rfl | rfl : k = 0 ∨ k = 1 ∨ k = 2 ∨ k = 3 := by omega
  all_goals decide
theorem pw_eq : ∀ k, pw k = ((2 ^ k : Nat) : Int)
  | 0 => rfl
  | k + 1 => by simp only [pw, pw_eq k, Nat.pow_succ]; omega
/-! ### how many steps of the first heaps there are on a day -/
def cnt (p : T3) (day : Int) : Nat → Int
  | 0 => 0
  | k + 1 => cnt p day k + (if p.at k = day then 1 else 0)
def befH (l : List T3) (day : Int) : Nat → Int
  | 0 => 0
  | h + 1 => befH l day h + cnt (l.getD h default) day 3
theorem cnt_bd (p : T3) (day : Int) : ∀ k : Nat, 0 ≤ cnt p day k ∧ cnt p day k ≤ k
  | 0 => by simp [cnt]
  | k + 1 => by have := cnt_bd p day k; simp only [cnt]; split <;> omega
theorem befH_bd (l : List T3) (day : Int) : ∀ h : Nat, 0 ≤ befH l day h ∧ befH l day h ≤ 3 * h
  | 0 => by simp [befH]
  | h + 1 => by have := befH_bd l day h; have := cnt_bd (l.getD h default) day 3; simp only [befH]; omega
/-! ### a plan as far as it goes -/
def upI (p : T3) (k i : Nat) : T3 := ⟨p.a, if k < 1 ∧ 1 < i then -1 else p.b, if k < 2 ∧ 2 < i then -1 else p.c⟩
theorem upI_0 {a b c : Int} {k : Nat} : upI ⟨a, b, c⟩ k (k + 1) = ⟨a, b, c⟩ := by
  unfold upI
  rw [if_neg (by omega), if_neg (by omega)]
theorem upI_step {p : T3} {k i : Nat} (h1 : k < i) (h2 : i < 3) : splice (encT (upI p k i)) (0 + i * 1) [i64 (-1)] = encT (upI p k (i + 1)) := by
  obtain ⟨rfl, rfl⟩ | ⟨rfl, rfl⟩ | ⟨rfl, rfl⟩ : (k = 0 ∧ i = 1) ∨ (k = 0 ∧ i = 2) ∨ (k = 1 ∧ i = 2) := by omega
  all_goals rfl
def upToP (p : T3) (k : Nat) : T3 := upI p k 3
theorem upI_end {p : T3} {k i : Nat} (h : i = 3 ∨ (k = 2 ∧ i = 3)) : upI p k i = upToP p k := by
  obtain rfl | ⟨_, rfl⟩ := h <;> rfl
theorem upTo_at {p : T3} {k : Nat} (hk : k < 3) : ∀ j, j < 3 → (upToP p k).at j = if j ≤ k then p.at j else -1 := by
  intro j hj
  obtain rfl | rfl | rfl : k = 0 ∨ k = 1 ∨ k = 2 := by omega
  all_goals (obtain rfl | rfl | rfl : j = 0 ∨ j = 1 ∨ j = 2 := by omega)
  all_goals rfl
theorem upTo_days {n : Nat} {p : T3} {k : Nat} (hk : k < 3) (h : Days n p) (hn : 0 ≤ (n : Int) - 1) : Days n (upToP p k) := by
  intro j hj
  rw [upTo_at hk j hj]
  have := h j hj
  split <;> omega
def ruleR (F : Work) (l : List T3) (men : Int) (h i : Nat) : Int :=
  if (l.getD h default).at i < 0 then 0 else if ¬ Ordered (l.getD h default) i then 1 else if ¬ okStep F worstTo h (upToP (l.getD h default) i) i then 2
  else if men ≤ befH l ((l.getD h default).at i) h then 3 else 0
section
variable {F : Work} {l : List T3} {men : Int} {h i : Nat} {p : T3}
theorem ruleR_n (hp : l.getD h default = p) (h0 : p.at i < 0) : ruleR F l men h i = 0 := by unfold ruleR; rw [hp, if_pos h0]
theorem ruleR_1 (hp : l.getD h default = p) (h0 : ¬ p.at i < 0) (h1 : ¬ Ordered p i) : ruleR F l men h i = 1 := by unfold ruleR; rw [hp, if_neg h0, if_pos h1]
theorem ruleR_2 (hp : l.getD h default = p) (h0 : ¬ p.at i < 0) (h1 : Ordered p i) (h2 : ¬ okStep F worstTo h (upToP p i) i) : ruleR F l men h i = 2 := by unfold ruleR; rw [hp, if_neg h0, if_neg (fun x => x h1), if_pos h2]
theorem ruleR_3 (hp : l.getD h default = p) (h0 : ¬ p.at i < 0) (h1 : Ordered p i) (h2 : okStep F worstTo h (upToP p i) i) (h3 : men ≤ befH l (p.at i) h) : ruleR F l men h i = 3 := by unfold ruleR; rw [hp, if_neg h0, if_neg (fun x => x h1), if_neg (fun x => x h2), if_pos h3]
theorem ruleR_0 (hp : l.getD h default = p) (h0 : ¬ p.at i < 0) (h1 : Ordered p i) (h2 : okStep F worstTo h (upToP p i) i) (h3 : ¬ men ≤ befH l (p.at i) h) : ruleR F l men h i = 0 := by unfold ruleR; rw [hp, if_neg h0, if_neg (fun x => x h1), if_neg (fun x => x h2), if_neg h3]
end
def BrokeR (F : Work) (l : List T3) (x : Int × Int × Int × Int) : Prop := if chk F (decide (ListOk F l)) = 0 then First (ruleR F l F.men) l.length x else x = (0, 0, 0, chk F (decide (ListOk F l)))
theorem BrokeR_of {F : Work} {l : List T3} (v : Bool) (hv : decide (ListOk F l) = v) (h : chk F v ≠ 0) : BrokeR F l (0, 0, 0, chk F v) := by unfold BrokeR; rw [hv, if_neg h]
theorem BrokeR_ok {F : Work} {l : List T3} {x : Int × Int × Int × Int} (hg : GoodF F) (hv : ListOk F l) (h : First (ruleR F l F.men) l.length x) : BrokeR F l x := by unfold BrokeR; rw [if_pos (by simp [chk, hg, hv])]; exact h
theorem BrokeR_at {F : Work} {l : List T3} (hg : GoodF F) (hv : ListOk F l) {h i : Nat} (h0 : ruleR F l F.men h i ≠ 0) (h1 : h < l.length) (h2 : i < 3) (h3 : ∀ h', h' < h → ∀ i', i' < 3 → ruleR F l F.men h' i' = 0) (h4 : ∀ i', i' < i → ruleR F l F.men h i' = 0) : BrokeR F l ((h : Int), (i : Int), ruleR F l F.men h i, 0) :=
  BrokeR_ok hg hv (.inl ⟨h, i, h1, h2, h0, h3, h4, rfl⟩)
theorem BrokeR_none {F : Work} {l : List T3} (hg : GoodF F) (hv : ListOk F l) (h3 : ∀ h', h' < l.length → ∀ i', i' < 3 → ruleR F l F.men h' i' = 0) : BrokeR F l (0, 0, 0, 4) :=
  BrokeR_ok hg hv (.inr ⟨h3, rfl⟩)
theorem ListOk_of {F : Work} {l : List T3} (h : ¬ chk F (decide (ListOk F l)) ≠ 0) : ListOk F l := by
  by_cases hl : ListOk F l
  · exact hl
  · have := chk_false F
    simp only [hl, decide_false] at h
    exact absurd this h
/-! ### which heaps can be clamped -/
def sumP (q : Nat → Bool) : Nat → Int
  | 0 => 0
  | k + 1 => sumP q k + (if q k then pw k else 0)
theorem sumP_bd (q : Nat → Bool) : ∀ k, 0 ≤ sumP q k ∧ sumP q k + 1 ≤ pw k
  | 0 => by simp [sumP, pw]
  | k + 1 => by have := sumP_bd q k; simp only [sumP, pw]; split <;> omega
theorem sumP_eq (q : Nat → Bool) : ∀ k, sumP q k = ((clampB q k : Nat) : Int)
  | 0 => rfl
  | k + 1 => by
    have hlt := clampB_lt q k
    simp only [sumP, clampB, sumP_eq q k, pw_eq]
    split
    · have : clampB q k ||| 2 ^ k = 2 ^ k + clampB q k := by
        have h := Nat.two_pow_add_eq_or_of_lt hlt 1
        rw [Nat.mul_one] at h
        rw [Nat.or_comm, h]
      rw [this]; omega
    · simp
def sureRQ (F : Work) (h : Nat) : Bool := decide (0 < ((sureR F h).length : Int))
def canRQ (F : Work) (h : Nat) : Bool := decide (∃ j, j < (whole F.rain.length).length ∧ ¬ keptR F h ((whole F.rain.length).getD j default) = 0)
def clampR (F : Work) : Int × Int × Int := if chk F true = 0 then (sumP (sureRQ F) F.heaps.length, sumP (canRQ F) F.heaps.length, 0) else (0, 0, chk F true)
theorem clampR_ok {F : Work} (hg : GoodF F) : clampR F = (sumP (sureRQ F) F.heaps.length, sumP (canRQ F) F.heaps.length, 0) := by unfold clampR; rw [if_pos (by simp [chk, hg])]
theorem clampR_bad {F : Work} (hg : chk F true ≠ 0) : clampR F = (0, 0, chk F true) := by unfold clampR; rw [if_neg hg]
theorem sumP_yes {q : Nat → Bool} {k : Nat} (h : q k = true) : sumP q k + pw k = sumP q (k + 1) := by simp [sumP, h]
theorem sumP_no {q : Nat → Bool} {k : Nat} (h : ¬ q k = true) : sumP q k = sumP q (k + 1) := by simp [sumP, h]
/-! ### how many sods plans clamp -/
def Whole (p : T3) : Prop := 0 ≤ p.at 0 ∧ 0 ≤ p.at 1 ∧ 0 ≤ p.at 2
instance (p : T3) : Decidable (Whole p) := by unfold Whole; infer_instance
def sodsTo (F : Work) (l : List T3) : Nat → Int
  | 0 => 0
  | k + 1 => sodsTo F l k + (if Whole (l.getD k default) then (F.heaps.getD k default).sods else 0)
def sodsR (F : Work) (l : List T3) : Int := sodsTo F l l.length
theorem sodsTo_bd {F : Work} (hg : GoodF F) (l : List T3) : ∀ k, k ≤ F.heaps.length → 0 ≤ sodsTo F l k ∧ sodsTo F l k ≤ 500 * k
  | 0, _ => by simp [sodsTo]
  | k + 1, h => by
    have := sodsTo_bd hg l k (by omega)
    have := (hg.2.2.2.2.2 k (by omega)).2
    simp only [sodsTo]
    split <;> omega
theorem sodsTo_yes {F : Work} {l : List T3} {k : Nat} (h : Whole (l.getD k default)) : sodsTo F l k + (F.heaps.getD k default).sods = sodsTo F l (k + 1) := by simp only [sodsTo, if_pos h]
theorem sodsTo_no {F : Work} {l : List T3} {k : Nat} (h : ¬ Whole (l.getD k default)) : sodsTo F l k = sodsTo F l (k + 1) := by simp only [sodsTo, if_neg h]; omega
theorem ex_t {p : Nat → Prop} {j : Nat} (h : ∃ i, i < j ∧ p i) : ∃ i, i < j + 1 ∧ p i := by
  obtain ⟨i, h1, h2⟩ := h
  exact ⟨i, by omega, h2⟩
theorem ex_n {p : Nat → Prop} {j : Nat} (h : ¬ ∃ i, i < j ∧ p i) : p j ↔ ∃ i, i < j + 1 ∧ p i := by
  constructor
  · intro x; exact ⟨j, by omega, x⟩
  · rintro ⟨i, h1, h2⟩
    by_cases e : i = j
    · subst e; exact h2
    · exact absurd ⟨i, by omega, h2⟩ h
theorem list_eq {xs ys : List T3} (hl : xs.length = ys.length) (h : ∀ k, k < xs.length → xs.getD k default = ys.getD k default) : xs = ys := by
  apply List.ext_getElem hl
  intro i h1 h2
  have := h i h1
  simpa [List.getD_eq_getElem?_getD, h1, h2] using this
end Foot4

namespace Go.Proofs.Ytienjlmnakbfmaa
open Go.G Foot4
set_option maxRecDepth 1000000
attribute [local irreducible] G.ParO G.Fin
set_option maxHeartbeats 4000000 in
theorem power_v (n : Nat) (hn : n ≤ 3) : FnV Try.prog 65 [i64 n] [] (i64 (pw n)) := by
  refine FnV.intro Try.call65 Try.func65 rfl Try.ntmps65 rfl ?_
  intro W M Rf
  refine r_seq ?_
  refine r_region ?_
  refine o_q _ rfl rfl rfl (v_assign rfl rfl) ?_
  refine o_nil ?_
  repeat (first | with_reducible refine r_then ?_ | with_reducible refine r_in_normal ?_ | with_reducible refine r_sc_normal ?_)
  refine r_seq ?_
  refine r_region ?_
  refine o_q _ rfl rfl rfl (v_assign rfl rfl) ?_
  refine o_nil ?_
  repeat (first | with_reducible refine r_then ?_ | with_reducible refine r_in_normal ?_ | with_reducible refine r_sc_normal ?_)
  refine r_seq ?_
  refine r_seq ?_
  refine r_region ?_
  refine o_q _ rfl rfl rfl (v_assign rfl rfl) ?_
  refine o_nil ?_
  repeat (first | with_reducible refine r_then ?_ | with_reducible refine r_in_normal ?_ | with_reducible refine r_sc_normal ?_)
  refine r_block ?_
  refine r_loop (ι := Nat) (fun k => k ≤ n) (fun k => [(0, i64 n), (3, i64 (pw k)), (4, i64 k)]) (fun k => M) (fun k => [] ++ Rf) (fun k => n - k) 0 ?_ ?_ ?_
  ·
    exact r_here (by repeat (first | exact FSub.nil | refine FSub.cons rfl ?_)) SelMC.sel SubRC.sub
  ·
    omega
  ·
    rintro k hI0
    have hpw := pw_bd (k := k) (by omega)
    refine r_seq ?_
    refine r_seq ?_
    refine r_region ?_
    refine o_q _ rfl rfl rfl (v_move rfl rfl) ?_
    refine o_q _ rfl rfl rfl (v_move rfl rfl) ?_
    refine o_q _ rfl rfl rfl (v_lss rfl rfl rfl) ?_
    refine o_nil ?_
    repeat (first | with_reducible refine r_then ?_ | with_reducible refine r_in_normal ?_ | with_reducible refine r_sc_normal ?_)
    first | refine r_condd rfl (fun hc7 => ?_) (fun hc7 => ?_) | refine r_cond rfl (fun hc7 => ?_) (fun hc7 => ?_)
    ·
      first
      | (exfalso; revert hc7; decide)
      | (exfalso; omega)
      | skip
        refine r_skip ?_
        repeat (first | with_reducible refine r_then ?_ | with_reducible refine r_in_normal ?_ | with_reducible refine r_sc_normal ?_)
        refine r_seq ?_
        refine r_block ?_
        refine r_region ?_
        refine o_q _ rfl rfl rfl (v_move rfl rfl) ?_
        refine o_q _ rfl rfl rfl (v_mul rfl rfl rfl (by omega)) ?_
        refine o_q _ rfl rfl rfl (v_assign rfl rfl) ?_
        refine o_nil ?_
        repeat (first | with_reducible refine r_then ?_ | with_reducible refine r_in_normal ?_ | with_reducible refine r_sc_normal ?_)
        refine r_region ?_
        refine o_q _ rfl rfl rfl (v_move rfl rfl) ?_
        refine o_q _ rfl rfl rfl (v_add rfl rfl rfl (by omega)) ?_
        refine o_q _ rfl rfl rfl (v_assign rfl rfl) ?_
        refine o_nil ?_
        repeat (first | with_reducible refine r_then ?_ | with_reducible refine r_in_normal ?_ | with_reducible refine r_sc_normal ?_)
        refine r_next (k + 1) ?_ ?_ ?_
        ·
          exact r_here (by repeat (first | exact FSub.nil | refine FSub.cons rfl ?_ | refine FSub.cons2 rfl (congrArg (Value.int .i64) (by first | rfl | omega)) ?_)) SelMC.sel SubRC.sub
        ·
          omega
        ·
          omega
    ·
      first
      | (exfalso; revert hc7; decide)
      | (exfalso; omega)
      | skip
        refine r_exit ?_
        repeat (first | with_reducible refine r_then_exit ?_ | with_reducible refine r_sc_exit ?_ | with_reducible refine r_in_here ?_ | (with_reducible refine r_in_past (by decide) ?_) | with_reducible refine r_then ?_ | with_reducible refine r_in_normal ?_ | with_reducible refine r_sc_normal ?_)
        refine r_seq ?_
        refine r_region ?_
        refine o_q _ rfl rfl rfl (v_move rfl rfl) ?_
        refine o_q _ rfl rfl rfl (v_assign rfl rfl) ?_
        refine o_nil ?_
        repeat (first | with_reducible refine r_then ?_ | with_reducible refine r_in_normal ?_ | with_reducible refine r_sc_normal ?_)
        refine r_ret ?_
        repeat (first | with_reducible refine r_then_ret ?_ | with_reducible refine r_in_ret ?_ | with_reducible refine r_sc_ret ?_)
        have hk : k = n := by omega
        subst hk
        exact r_retv2 (Rd.tmp rfl rfl) rfl SelMC.sel SubRC.sub
set_option maxHeartbeats 4000000 in
theorem List_v (F : Work) (ro ho : Option Addr) (rc hc : Nat) (hr : F.rain.length ≤ 40) (hh : F.heaps.length ≤ 40) (l : List T3) (lo : Option Addr) (lc : Nat) (hl : l.length ≤ 40) : FnV Try.prog 72 [valF F ro rc ho hc, .slice lo l.length lc] [rowD lo 3 encT l, rowD ro 2 encS F.rain, rowD ho 3 encH F.heaps] (.bool (decide (ListOk F l))) := by
  refine FnV.intro Try.call72 Try.func72 rfl Try.ntmps72 rfl ?_
  intro W M Rf
  refine r_seq ?_
  refine r_region ?_
  refine o_boxA rfl rfl rfl rfl rfl (fun b2 => ?_)
  refine o_q _ rfl rfl rfl (v_assign rfl rfl) ?_
  refine o_nil ?_
  repeat (first | with_reducible refine r_then ?_ | with_reducible refine r_in_normal ?_ | with_reducible refine r_sc_normal ?_)
  refine r_seq ?_
  refine r_seq ?_
  refine r_region ?_
  refine o_q _ rfl rfl rfl (v_assign rfl rfl) ?_
  refine o_nil ?_
  repeat (first | with_reducible refine r_then ?_ | with_reducible refine r_in_normal ?_ | with_reducible refine r_sc_normal ?_)
  refine r_block ?_
  refine r_loop (ι := Nat) (fun k => k ≤ l.length ∧ ∀ j, j < k → Days F.rain.length (l.getD j default)) (fun k => [(1, .slice lo l.length lc), (2, pt b2 0), (5, i64 k)]) (fun k => bx b2 26 (cellsF F ro rc ho hc) :: M) (fun k => [rowD lo 3 encT l, rowD ro 2 encS F.rain, rowD ho 3 encH F.heaps] ++ Rf) (fun k => l.length - k) 0 ?_ ?_ ?_
  ·
    exact r_here (by repeat (first | exact FSub.nil | refine FSub.cons rfl ?_)) SelMC.sel SubRC.sub
  ·
    exact ⟨by omega, fun j hj => absurd hj (by omega)⟩
  ·
    rintro k hI0
    refine r_seq ?_
    refine r_seq ?_
    refine r_region ?_
    refine o_q _ rfl rfl rfl (v_move rfl rfl) ?_
    refine o_q _ rfl rfl rfl (v_move rfl rfl) ?_
    refine o_q _ rfl rfl rfl (v_len rfl rfl Try.underlying40 rfl) ?_
    refine o_q _ rfl rfl rfl (v_lss rfl rfl rfl) ?_
    refine o_nil ?_
    repeat (first | with_reducible refine r_then ?_ | with_reducible refine r_in_normal ?_ | with_reducible refine r_sc_normal ?_)
    first | refine r_condd rfl (fun hc9 => ?_) (fun hc9 => ?_) | refine r_cond rfl (fun hc9 => ?_) (fun hc9 => ?_)
    ·
      first
      | (exfalso; revert hc9; decide)
      | (exfalso; omega)
      | skip
        refine r_skip ?_
        repeat (first | with_reducible refine r_then ?_ | with_reducible refine r_in_normal ?_ | with_reducible refine r_sc_normal ?_)
        refine r_seq ?_
        refine r_block ?_
        refine r_seq ?_
        refine r_region_q mixed (by kernel_rfl) ?_
        first | refine q_q _ rfl rfl rfl (v_ldW rfl Try.underlying26 rfl inf26 rfl rfl) ?_ | refine q_q _ rfl rfl rfl (v_lfW rfl Try.underlying26 rfl inf26 rfl rfl) ?_ | refine q_q _ rfl rfl rfl (v_lfN rfl Try.underlying26 rfl inf26 rfl rfl rfl) ?_ | refine q_q _ rfl rfl rfl (v_ldN rfl Try.underlying26 rfl inf26 rfl rfl rfl) ?_ | refine q_q _ rfl rfl rfl (v_loadEN rfl Try.underlying26 rfl inf26 rfl (by omega) rfl rfl rfl) ?_
        refine q_q _ rfl rfl rfl (v_move rfl rfl) ?_
        refine q_q _ rfl rfl rfl (v_move rfl rfl) ?_
        first | refine q_q _ rfl rfl rfl (v_indexAddrSn rfl Try.underlying40 inf27 rfl rfl rfl (by omega) rfl) ?_ | refine q_q _ rfl rfl rfl (v_indexAddrS rfl Try.underlying40 inf27 rfl rfl rfl (by omega) (by omega) rfl) ?_
        first | refine q_q _ rfl rfl rfl (v_ldW rfl Try.underlying27 rfl inf27 rfl rfl) ?_ | refine q_q _ rfl rfl rfl (v_lfW rfl Try.underlying27 rfl inf27 rfl rfl) ?_ | refine q_q _ rfl rfl rfl (v_lfN rfl Try.underlying27 rfl inf27 rfl rfl rfl) ?_ | refine q_q _ rfl rfl rfl (v_ldN rfl Try.underlying27 rfl inf27 rfl rfl rfl) ?_ | refine q_q _ rfl rfl rfl (v_loadEN rfl Try.underlying27 rfl inf27 rfl (by omega) rfl rfl rfl) ?_
        first | refine q_q _ rfl rfl rfl (v_true (OpQ.fn (numbers_v F ro ho rc hc _ _ _ hr hh) rfl rfl SubRC.sub) (by omega)) ?_ | refine q_q _ rfl rfl rfl (v_false (OpQ.fn (numbers_v F ro ho rc hc _ _ _ hr hh) rfl rfl SubRC.sub) (by omega)) ?_ | refine q_test rfl rfl rfl (OpQ.fn (numbers_v F ro ho rc hc _ _ _ hr hh) rfl rfl SubRC.sub) (fun h17 => ?_) (fun h17 => ?_)
        all_goals
          refine q_q _ rfl rfl rfl (v_not rfl rfl) ?_
          refine q_nil ?_
          repeat (first | with_reducible refine r_then ?_ | with_reducible refine r_in_normal ?_ | with_reducible refine r_sc_normal ?_)
          first | refine r_condd rfl (fun hc18 => ?_) (fun hc18 => ?_) | refine r_cond rfl (fun hc18 => ?_) (fun hc18 => ?_)
          ·
            first
            | (exfalso; revert hc18; decide)
            | (exfalso; omega)
            | skip
              refine r_seq ?_
              refine r_region ?_
              refine o_q _ rfl rfl rfl (v_assign rfl rfl) ?_
              refine o_nil ?_
              repeat (first | with_reducible refine r_then ?_ | with_reducible refine r_in_normal ?_ | with_reducible refine r_sc_normal ?_)
              refine r_ret ?_
              repeat (first | with_reducible refine r_then_ret ?_ | with_reducible refine r_in_ret ?_ | with_reducible refine r_sc_ret ?_)
              first
              | exact r_retv2 (Rd.tmp rfl rfl) (congrArg Value.bool (decide_eq_false (fun h => absurd (h.2 k (by omega)) (by assumption))).symm) SelMC.sel SubRC.sub
              | exact r_retv2 (Rd.tmp rfl rfl) (congrArg Value.bool (decide_eq_decide.2 ⟨fun h => ⟨h, fun j hj => hI0.2 j (by omega)⟩, fun h => h.1⟩)) SelMC.sel SubRC.sub
          ·
            first
            | (exfalso; revert hc18; decide)
            | (exfalso; omega)
            | skip
              refine r_skip ?_
              repeat (first | with_reducible refine r_then ?_ | with_reducible refine r_in_normal ?_ | with_reducible refine r_sc_normal ?_)
              refine r_region ?_
              refine o_q _ rfl rfl rfl (v_move rfl rfl) ?_
              refine o_q _ rfl rfl rfl (v_add rfl rfl rfl (by omega)) ?_
              refine o_q _ rfl rfl rfl (v_assign rfl rfl) ?_
              refine o_nil ?_
              repeat (first | with_reducible refine r_then ?_ | with_reducible refine r_in_normal ?_ | with_reducible refine r_sc_normal ?_)
              refine r_next (k + 1) ?_ ?_ ?_
              ·
                exact r_here (by repeat (first | exact FSub.nil | refine FSub.cons rfl ?_)) SelMC.sel SubRC.sub
              ·
                exact ⟨by omega, all_step hI0.2 (by assumption)⟩
              ·
                omega
    ·
      first
      | (exfalso; revert hc9; decide)
      | (exfalso; omega)
      | skip
        refine r_exit ?_
        repeat (first | with_reducible refine r_then_exit ?_ | with_reducible refine r_sc_exit ?_ | with_reducible refine r_in_here ?_ | (with_reducible refine r_in_past (by decide) ?_) | with_reducible refine r_then ?_ | with_reducible refine r_in_normal ?_ | with_reducible refine r_sc_normal ?_)
        refine r_seq ?_
        refine r_region ?_
        refine o_q _ rfl rfl rfl (v_move rfl rfl) ?_
        refine o_q _ rfl rfl rfl (v_len rfl rfl Try.underlying40 rfl) ?_
        first | refine o_q _ rfl rfl rfl (v_fieldAddr rfl Try.underlying26 inf24 rfl rfl rfl rfl) ?_ | refine o_q _ rfl rfl rfl (v_fieldAddrE rfl Try.underlying26 inf24 rfl rfl rfl rfl) ?_
        first | refine o_q _ rfl rfl rfl (v_ld1 rfl Try.underlying24 rfl rfl rfl) ?_ | refine o_q _ rfl rfl rfl (v_lf1 rfl Try.underlying24 rfl rfl rfl) ?_ | refine o_q _ rfl rfl rfl (v_loadE1 rfl Try.underlying24 rfl rfl (by omega) rfl rfl) ?_
        refine o_q _ rfl rfl rfl (v_len rfl rfl Try.underlying24 rfl) ?_
        refine o_q _ rfl rfl rfl (v_eql rfl rfl rfl) ?_
        refine o_q _ rfl rfl rfl (v_assign rfl rfl) ?_
        refine o_nil ?_
        repeat (first | with_reducible refine r_then ?_ | with_reducible refine r_in_normal ?_ | with_reducible refine r_sc_normal ?_)
        refine r_ret ?_
        repeat (first | with_reducible refine r_then_ret ?_ | with_reducible refine r_in_ret ?_ | with_reducible refine r_sc_ret ?_)
        first
        | exact r_retv2 (Rd.tmp rfl rfl) (congrArg Value.bool (decide_eq_false (fun h => absurd (h.2 k (by omega)) (by assumption))).symm) SelMC.sel SubRC.sub
        | exact r_retv2 (Rd.tmp rfl rfl) (congrArg Value.bool (decide_eq_decide.2 ⟨fun h => ⟨h, fun j hj => hI0.2 j (by omega)⟩, fun h => h.1⟩)) SelMC.sel SubRC.sub
theorem t3_atn0 {t : T3} {k : Nat} (h1 : k < 3) : (encT t)[k * 1]? = some (i64 (t.at k)) := by
  obtain rfl | rfl | rfl : k = 0 ∨ k = 1 ∨ k = 2 := by omega
  all_goals rfl
theorem lt_blt {k : Nat} (h : k < 3) : Nat.blt (k * 1) 3 = true := by
  obtain rfl | rfl | rfl : k = 0 ∨ k = 1 ∨ k = 2 := by omega
  all_goals rfl
set_option maxHeartbeats 4000000 in
theorem before_v (l : List T3) (lo : Option Addr) (lc : Nat) (hl : l.length ≤ 40) (h : Nat) (day : Int) (hh : h ≤ l.length) : FnV Try.prog 95 [.slice lo l.length lc, i64 h, i64 day] [rowD lo 3 encT l] (i64 (befH l day h)) := by
  refine FnV.intro Try.call95 Try.func95 rfl Try.ntmps95 rfl ?_
  intro W M Rf
  refine r_seq ?_
  refine r_region ?_
  refine o_q _ rfl rfl rfl (v_assign rfl rfl) ?_
  refine o_nil ?_
  repeat (first | with_reducible refine r_then ?_ | with_reducible refine r_in_normal ?_ | with_reducible refine r_sc_normal ?_)
  refine r_seq ?_
  refine r_region ?_
  refine o_q _ rfl rfl rfl (v_assign rfl rfl) ?_
  refine o_nil ?_
  repeat (first | with_reducible refine r_then ?_ | with_reducible refine r_in_normal ?_ | with_reducible refine r_sc_normal ?_)
  refine r_seq ?_
  refine r_seq ?_
  refine r_region ?_
  refine o_q _ rfl rfl rfl (v_assign rfl rfl) ?_
  refine o_nil ?_
  repeat (first | with_reducible refine r_then ?_ | with_reducible refine r_in_normal ?_ | with_reducible refine r_sc_normal ?_)
  refine r_block ?_
  refine r_loop (ι := Nat) (fun k => k ≤ h) (fun k => [(0, .slice lo l.length lc), (1, i64 h), (2, i64 day), (7, i64 (befH l day k)), (8, i64 k)]) (fun k => M) (fun k => [rowD lo 3 encT l] ++ Rf) (fun k => h - k) 0 ?_ ?_ ?_
  ·
    exact r_here (by repeat (first | exact FSub.nil | refine FSub.cons rfl ?_)) SelMC.sel SubRC.sub
  ·
    omega
  ·
    rintro k hI0
    have hbb := befH_bd l day k
    refine r_seq ?_
    refine r_seq ?_
    refine r_region ?_
    refine o_q _ rfl rfl rfl (v_move rfl rfl) ?_
    refine o_q _ rfl rfl rfl (v_move rfl rfl) ?_
    refine o_q _ rfl rfl rfl (v_lss rfl rfl rfl) ?_
    refine o_nil ?_
    repeat (first | with_reducible refine r_then ?_ | with_reducible refine r_in_normal ?_ | with_reducible refine r_sc_normal ?_)
    first | refine r_condd rfl (fun hc12 => ?_) (fun hc12 => ?_) | refine r_cond rfl (fun hc12 => ?_) (fun hc12 => ?_)
    ·
      first
      | (exfalso; revert hc12; decide)
      | (exfalso; omega)
      | skip
        refine r_skip ?_
        repeat (first | with_reducible refine r_then ?_ | with_reducible refine r_in_normal ?_ | with_reducible refine r_sc_normal ?_)
        refine r_seq ?_
        refine r_block ?_
        refine r_seq ?_
        refine r_region ?_
        refine o_q _ rfl rfl rfl (v_assign rfl rfl) ?_
        refine o_nil ?_
        repeat (first | with_reducible refine r_then ?_ | with_reducible refine r_in_normal ?_ | with_reducible refine r_sc_normal ?_)
        refine r_block ?_
        refine r_loop (ι := Nat) (fun j => j ≤ 3) (fun j => [(0, .slice lo l.length lc), (1, i64 h), (2, i64 day), (7, i64 (befH l day k + cnt (l.getD k default) day j)), (8, i64 k), (9, i64 j)]) (fun j => M) (fun j => [rowD lo 3 encT l] ++ Rf) (fun j => 3 - j) 0 ?_ ?_ ?_
        ·
          exact r_here (by repeat (first | exact FSub.nil | refine FSub.cons rfl ?_ | refine FSub.cons2 rfl (congrArg (Value.int .i64) (by simp [cnt])) ?_)) SelMC.sel SubRC.sub
        ·
          omega
        ·
          rintro j hI1
          have hcb := cnt_bd (l.getD k default) day j
          refine r_seq ?_
          refine r_seq ?_
          refine r_region ?_
          refine o_q _ rfl rfl rfl (v_move rfl rfl) ?_
          refine o_q _ rfl rfl rfl (v_lss rfl rfl rfl) ?_
          refine o_nil ?_
          repeat (first | with_reducible refine r_then ?_ | with_reducible refine r_in_normal ?_ | with_reducible refine r_sc_normal ?_)
          first | refine r_condd rfl (fun hc16 => ?_) (fun hc16 => ?_) | refine r_cond rfl (fun hc16 => ?_) (fun hc16 => ?_)
          ·
            first
            | (exfalso; revert hc16; decide)
            | (exfalso; omega)
            | skip
              refine r_skip ?_
              repeat (first | with_reducible refine r_then ?_ | with_reducible refine r_in_normal ?_ | with_reducible refine r_sc_normal ?_)
              refine r_seq ?_
              refine r_block ?_
              refine r_seq ?_
              refine r_region ?_
              refine o_q _ rfl rfl rfl (v_move rfl rfl) ?_
              refine o_q _ rfl rfl rfl (v_move rfl rfl) ?_
              refine o_q _ rfl rfl rfl (v_move rfl rfl) ?_
              first | refine o_q _ rfl rfl rfl (v_indexAddrSn rfl Try.underlying40 inf27 rfl rfl rfl (by omega) rfl) ?_ | refine o_q _ rfl rfl rfl (v_indexAddrS rfl Try.underlying40 inf27 rfl rfl rfl (by omega) (by omega) rfl) ?_
              first | refine o_q _ rfl rfl rfl (v_indexAddrAn rfl Try.underlying27 inf3 rfl rfl (by omega)) ?_ | refine o_q _ rfl rfl rfl (v_indexAddrA rfl Try.underlying27 inf3 rfl rfl (by omega)) ?_ | refine o_q _ rfl rfl rfl (v_indexAddrE rfl Try.underlying27 inf3 rfl rfl (by omega)) ?_
              refine o_q _ rfl rfl rfl (v_loadE1 rfl Try.underlying3 rfl rfl (by omega) (lt_blt (k := j) (by omega)) (t3_atn0 (k := j) (by omega))) ?_
              refine o_q _ rfl rfl rfl (v_move rfl rfl) ?_
              refine o_q _ rfl rfl rfl (v_eql rfl rfl rfl) ?_
              refine o_nil ?_
              repeat (first | with_reducible refine r_then ?_ | with_reducible refine r_in_normal ?_ | with_reducible refine r_sc_normal ?_)
              first | refine r_condd rfl (fun hc26 => ?_) (fun hc26 => ?_) | refine r_cond rfl (fun hc26 => ?_) (fun hc26 => ?_)
              ·
                first
                | (exfalso; revert hc26; decide)
                | (exfalso; omega)
                | skip
                  refine r_region ?_
                  refine o_q _ rfl rfl rfl (v_move rfl rfl) ?_
                  refine o_q _ rfl rfl rfl (v_add rfl rfl rfl (by omega)) ?_
                  refine o_q _ rfl rfl rfl (v_assign rfl rfl) ?_
                  refine o_nil ?_
                  repeat (first | with_reducible refine r_then ?_ | with_reducible refine r_in_normal ?_ | with_reducible refine r_sc_normal ?_)
                  refine r_region ?_
                  refine o_q _ rfl rfl rfl (v_move rfl rfl) ?_
                  refine o_q _ rfl rfl rfl (v_add rfl rfl rfl (by omega)) ?_
                  refine o_q _ rfl rfl rfl (v_assign rfl rfl) ?_
                  refine o_nil ?_
                  repeat (first | with_reducible refine r_then ?_ | with_reducible refine r_in_normal ?_ | with_reducible refine r_sc_normal ?_)
                  refine r_next (j + 1) ?_ ?_ ?_
                  ·
                    exact r_here (by repeat (first | exact FSub.nil | refine FSub.cons rfl ?_ | refine FSub.cons2 rfl (congrArg (Value.int .i64) (by first | (simp only [cnt]; rw [if_pos (by assumption)]; omega) | (simp only [cnt]; rw [if_neg (by assumption)]; omega) | omega)) ?_)) SelMC.sel SubRC.sub
                  ·
                    omega
                  ·
                    omega
              ·
                first
                | (exfalso; revert hc26; decide)
                | (exfalso; omega)
                | skip
                  refine r_skip ?_
                  repeat (first | with_reducible refine r_then ?_ | with_reducible refine r_in_normal ?_ | with_reducible refine r_sc_normal ?_)
                  refine r_region ?_
                  refine o_q _ rfl rfl rfl (v_move rfl rfl) ?_
                  refine o_q _ rfl rfl rfl (v_add rfl rfl rfl (by omega)) ?_
                  refine o_q _ rfl rfl rfl (v_assign rfl rfl) ?_
                  refine o_nil ?_
                  repeat (first | with_reducible refine r_then ?_ | with_reducible refine r_in_normal ?_ | with_reducible refine r_sc_normal ?_)
                  refine r_next (j + 1) ?_ ?_ ?_
                  ·
                    exact r_here (by repeat (first | exact FSub.nil | refine FSub.cons rfl ?_ | refine FSub.cons2 rfl (congrArg (Value.int .i64) (by first | (simp only [cnt]; rw [if_pos (by assumption)]; omega) | (simp only [cnt]; rw [if_neg (by assumption)]; omega) | omega)) ?_)) SelMC.sel SubRC.sub
                  ·
                    omega
                  ·
                    omega
          ·
            first
            | (exfalso; revert hc16; decide)
            | (exfalso; omega)
            | skip
              refine r_exit ?_
              repeat (first | with_reducible refine r_then_exit ?_ | with_reducible refine r_sc_exit ?_ | with_reducible refine r_in_here ?_ | (with_reducible refine r_in_past (by decide) ?_) | with_reducible refine r_then ?_ | with_reducible refine r_in_normal ?_ | with_reducible refine r_sc_normal ?_)
              refine r_region ?_
              refine o_q _ rfl rfl rfl (v_move rfl rfl) ?_
              refine o_q _ rfl rfl rfl (v_add rfl rfl rfl (by omega)) ?_
              refine o_q _ rfl rfl rfl (v_assign rfl rfl) ?_
              refine o_nil ?_
              repeat (first | with_reducible refine r_then ?_ | with_reducible refine r_in_normal ?_ | with_reducible refine r_sc_normal ?_)
              refine r_next (k + 1) ?_ ?_ ?_
              ·
                have hj : j = 3 := by omega
                subst hj
                exact r_here (by repeat (first | exact FSub.nil | refine FSub.cons rfl ?_ | refine FSub.cons2 rfl (congrArg (Value.int .i64) (by first | rfl | omega)) ?_)) SelMC.sel SubRC.sub
              ·
                omega
              ·
                omega
    ·
      first
      | (exfalso; revert hc12; decide)
      | (exfalso; omega)
      | skip
        refine r_exit ?_
        repeat (first | with_reducible refine r_then_exit ?_ | with_reducible refine r_sc_exit ?_ | with_reducible refine r_in_here ?_ | (with_reducible refine r_in_past (by decide) ?_) | with_reducible refine r_then ?_ | with_reducible refine r_in_normal ?_ | with_reducible refine r_sc_normal ?_)
        refine r_seq ?_
        refine r_region ?_
        refine o_q _ rfl rfl rfl (v_move rfl rfl) ?_
        refine o_q _ rfl rfl rfl (v_assign rfl rfl) ?_
        refine o_nil ?_
        repeat (first | with_reducible refine r_then ?_ | with_reducible refine r_in_normal ?_ | with_reducible refine r_sc_normal ?_)
        refine r_ret ?_
        repeat (first | with_reducible refine r_then_ret ?_ | with_reducible refine r_in_ret ?_ | with_reducible refine r_sc_ret ?_)
        have hk : k = h := by omega
        subst hk
        exact r_retv2 (Rd.tmp rfl rfl) rfl SelMC.sel SubRC.sub
set_option maxHeartbeats 4000000 in
theorem upTo_v (a b c : Int) (k : Nat) (hk : k < 3) : FnV Try.prog 94 [.agg #[i64 a, i64 b, i64 c], i64 k] [] (.agg #[i64 (upToP ⟨a, b, c⟩ k).a, i64 (upToP ⟨a, b, c⟩ k).b, i64 (upToP ⟨a, b, c⟩ k).c]) := by
  refine FnV.intro Try.call94 Try.func94 rfl Try.ntmps94 rfl ?_
  intro W M Rf
  refine r_seq ?_
  refine r_region ?_
  refine o_boxA rfl rfl rfl rfl rfl (fun b2 => ?_)
  refine o_alloc rfl inf27 rfl rfl rfl rfl rfl (fun b4 => ?_)
  refine o_nil ?_
  repeat (first | with_reducible refine r_then ?_ | with_reducible refine r_in_normal ?_ | with_reducible refine r_sc_normal ?_)
  refine r_seq ?_
  refine r_seq ?_
  refine r_region ?_
  refine o_q _ rfl rfl rfl (v_move rfl rfl) ?_
  refine o_q _ rfl rfl rfl (v_add rfl rfl rfl (by omega)) ?_
  refine o_q _ rfl rfl rfl (v_assign rfl rfl) ?_
  refine o_nil ?_
  repeat (first | with_reducible refine r_then ?_ | with_reducible refine r_in_normal ?_ | with_reducible refine r_sc_normal ?_)
  refine r_block ?_
  refine r_loop (ι := Nat) (fun i => k + 1 ≤ i ∧ i ≤ 3) (fun i => [(2, pt b2 0), (4, pt b4 0), (5, i64 i)]) (fun i => bx b2 27 (encT (upI ⟨a, b, c⟩ k i)) :: bx b4 27 [i64 0, i64 0, i64 0] :: M) (fun i => [] ++ Rf) (fun i => 3 - i) (k + 1) ?_ ?_ ?_
  ·
    refine Imp.box_to b2 (encT (upI ⟨a, b, c⟩ k (k + 1))) (by rw [upI_0]; rfl) ?_
    refine Imp.box_to b4 [i64 0, i64 0, i64 0] rfl ?_
    exact r_here (by repeat (first | exact FSub.nil | refine FSub.cons rfl ?_ | refine FSub.cons2 rfl (congrArg (Value.int .i64) (by first | rfl | omega)) ?_)) SelMC.sel SubRC.sub
  ·
    omega
  ·
    rintro i hI0
    have hI : k + 1 ≤ i ∧ i ≤ 3 := hI0
    refine r_seq ?_
    refine r_seq ?_
    refine r_region ?_
    refine o_q _ rfl rfl rfl (v_move rfl rfl) ?_
    refine o_q _ rfl rfl rfl (v_lss rfl rfl rfl) ?_
    refine o_nil ?_
    repeat (first | with_reducible refine r_then ?_ | with_reducible refine r_in_normal ?_ | with_reducible refine r_sc_normal ?_)
    first | refine r_condd rfl (fun hc9 => ?_) (fun hc9 => ?_) | refine r_cond rfl (fun hc9 => ?_) (fun hc9 => ?_)
    ·
      first
      | (exfalso; revert hc9; decide)
      | (exfalso; omega)
      | skip
        refine r_skip ?_
        repeat (first | with_reducible refine r_then ?_ | with_reducible refine r_in_normal ?_ | with_reducible refine r_sc_normal ?_)
        refine r_seq ?_
        refine r_block ?_
        refine r_region ?_
        refine o_q _ rfl rfl rfl (v_move rfl rfl) ?_
        first | refine o_q _ rfl rfl rfl (v_indexAddrAn rfl Try.underlying27 inf3 rfl rfl (by omega)) ?_ | refine o_q _ rfl rfl rfl (v_indexAddrA rfl Try.underlying27 inf3 rfl rfl (by omega)) ?_ | refine o_q _ rfl rfl rfl (v_indexAddrE rfl Try.underlying27 inf3 rfl rfl (by omega)) ?_
        refine o_st (B := 27) (vs := encT (upI ⟨a, b, c⟩ k i)) rfl inf3 rfl rfl rfl rfl rfl rfl rfl (ble1 (by show i < 3; omega)) ?_
        refine o_nil ?_
        repeat (first | with_reducible refine r_then ?_ | with_reducible refine r_in_normal ?_ | with_reducible refine r_sc_normal ?_)
        refine r_region ?_
        refine o_q _ rfl rfl rfl (v_move rfl rfl) ?_
        refine o_q _ rfl rfl rfl (v_add rfl rfl rfl (by omega)) ?_
        refine o_q _ rfl rfl rfl (v_assign rfl rfl) ?_
        refine o_nil ?_
        repeat (first | with_reducible refine r_then ?_ | with_reducible refine r_in_normal ?_ | with_reducible refine r_sc_normal ?_)
        refine r_next (i + 1) ?_ ?_ ?_
        ·
          refine Imp.box_to b2 (encT (upI ⟨a, b, c⟩ k (i + 1))) (upI_step (by omega) (by omega)) ?_
          exact r_here (by repeat (first | exact FSub.nil | refine FSub.cons rfl ?_ | refine FSub.cons2 rfl (congrArg (Value.int .i64) (by first | rfl | omega)) ?_)) SelMC.sel SubRC.sub
        ·
          omega
        ·
          omega
    ·
      first
      | (exfalso; revert hc9; decide)
      | (exfalso; omega)
      | skip
        refine r_exit ?_
        repeat (first | with_reducible refine r_then_exit ?_ | with_reducible refine r_sc_exit ?_ | with_reducible refine r_in_here ?_ | (with_reducible refine r_in_past (by decide) ?_) | with_reducible refine r_then ?_ | with_reducible refine r_in_normal ?_ | with_reducible refine r_sc_normal ?_)
        refine r_seq ?_
        refine r_region ?_
        first | refine o_q _ rfl rfl rfl (v_ldW rfl Try.underlying27 rfl inf27 rfl rfl) ?_ | refine o_q _ rfl rfl rfl (v_lfW rfl Try.underlying27 rfl inf27 rfl rfl) ?_ | refine o_q _ rfl rfl rfl (v_lfN rfl Try.underlying27 rfl inf27 rfl rfl rfl) ?_ | refine o_q _ rfl rfl rfl (v_ldN rfl Try.underlying27 rfl inf27 rfl rfl rfl) ?_ | refine o_q _ rfl rfl rfl (v_loadEN rfl Try.underlying27 rfl inf27 rfl (by omega) rfl rfl rfl) ?_
        refine o_st rfl inf27 rfl rfl rfl rfl rfl rfl rfl rfl ?_
        refine o_nil ?_
        repeat (first | with_reducible refine r_then ?_ | with_reducible refine r_in_normal ?_ | with_reducible refine r_sc_normal ?_)
        refine r_ret ?_
        repeat (first | with_reducible refine r_then_ret ?_ | with_reducible refine r_in_ret ?_ | with_reducible refine r_sc_ret ?_)
        have hi3 : i = 3 := by omega
        subst hi3
        exact r_retv2 (Rd.one rfl (RdI.cellW Try.underlying27 rfl inf27 rfl rfl)) rfl SelMC.sel SubRC.sub
set_option maxHeartbeats 4000000 in
theorem rule_v (F : Work) (ro ho : Option Addr) (rc hc : Nat) (hr : F.rain.length ≤ 40) (hh : F.heaps.length ≤ 40) (l : List T3) (lo : Option Addr) (lc : Nat) (hl : l.length ≤ 40) (h i : Nat) (men : Int) (hh1 : h < F.heaps.length) (hh2 : h < l.length) (hi : i < 3) (hb : Bnd F) (hn : 1 ≤ F.rain.length) (hdl : Days F.rain.length (l.getD h default)) : FnV Try.prog 73 [valF F ro rc ho hc, .slice lo l.length lc, i64 h, i64 i, i64 men] [rowD lo 3 encT l, rowD ro 2 encS F.rain, rowD ho 3 encH F.heaps] (i64 (ruleR F l men h i)) := by
  obtain ⟨a, b, c, hp⟩ : ∃ a b c, l.getD h default = ⟨a, b, c⟩ := ⟨_, _, _, rfl⟩
  have hd : Days F.rain.length ⟨a, b, c⟩ := hp ▸ hdl
  refine FnV.intro Try.call73 Try.func73 rfl Try.ntmps73 rfl ?_
  intro W M Rf
  refine r_seq ?_
  refine r_region ?_
  refine o_boxA rfl rfl rfl rfl rfl (fun b5 => ?_)
  refine o_q _ rfl rfl rfl (v_assign rfl rfl) ?_
  refine o_nil ?_
  repeat (first | with_reducible refine r_then ?_ | with_reducible refine r_in_normal ?_ | with_reducible refine r_sc_normal ?_)
  refine r_seq ?_
  refine r_region ?_
  refine o_q _ rfl rfl rfl (v_move rfl rfl) ?_
  refine o_q _ rfl rfl rfl (v_move rfl rfl) ?_
  first | refine o_q _ rfl rfl rfl (v_indexAddrSn rfl Try.underlying40 inf27 rfl rfl rfl (by omega) rfl) ?_ | refine o_q _ rfl rfl rfl (v_indexAddrS rfl Try.underlying40 inf27 rfl rfl rfl (by omega) (by omega) rfl) ?_
  first | refine o_q _ rfl rfl rfl (v_ldW rfl Try.underlying27 rfl inf27 rfl rfl) ?_ | refine o_q _ rfl rfl rfl (v_lfW rfl Try.underlying27 rfl inf27 rfl rfl) ?_ | refine o_q _ rfl rfl rfl (v_lfN rfl Try.underlying27 rfl inf27 rfl rfl rfl) ?_ | refine o_q _ rfl rfl rfl (v_ldN rfl Try.underlying27 rfl inf27 rfl rfl rfl) ?_ | refine o_q _ rfl rfl rfl (v_loadEN rfl Try.underlying27 rfl inf27 rfl (by omega) rfl rfl rfl) ?_
  simp only [hp]
  refine o_alloc rfl inf27 rfl rfl rfl rfl rfl (fun b11 => ?_)
  refine o_st rfl inf27 rfl rfl rfl rfl rfl rfl rfl rfl ?_
  refine o_nil ?_
  repeat (first | with_reducible refine r_then ?_ | with_reducible refine r_in_normal ?_ | with_reducible refine r_sc_normal ?_)
  refine r_seq ?_
  refine r_seq ?_
  refine Imp.box_to b11 [i64 a, i64 b, i64 c] rfl ?_
  refine r_region ?_
  refine o_q _ rfl rfl rfl (v_move rfl rfl) ?_
  first | refine o_q _ rfl rfl rfl (v_indexAddrAn rfl Try.underlying27 inf3 rfl rfl (by omega)) ?_ | refine o_q _ rfl rfl rfl (v_indexAddrA rfl Try.underlying27 inf3 rfl rfl (by omega)) ?_ | refine o_q _ rfl rfl rfl (v_indexAddrE rfl Try.underlying27 inf3 rfl rfl (by omega)) ?_
  refine o_q _ rfl rfl rfl (v_ld1 rfl Try.underlying3 rfl rfl (t3_atn (by omega))) ?_
  refine o_q _ rfl rfl rfl (v_lss rfl rfl rfl) ?_
  refine o_nil ?_
  repeat (first | with_reducible refine r_then ?_ | with_reducible refine r_in_normal ?_ | with_reducible refine r_sc_normal ?_)
  first | refine r_condd rfl (fun hc19 => ?_) (fun hc19 => ?_) | refine r_cond rfl (fun hc19 => ?_) (fun hc19 => ?_)
  ·
    first
    | (exfalso; revert hc19; decide)
    | (exfalso; omega)
    | skip
      refine r_seq ?_
      refine r_region ?_
      refine o_q _ rfl rfl rfl (v_assign rfl rfl) ?_
      refine o_nil ?_
      repeat (first | with_reducible refine r_then ?_ | with_reducible refine r_in_normal ?_ | with_reducible refine r_sc_normal ?_)
      refine r_ret ?_
      repeat (first | with_reducible refine r_then_ret ?_ | with_reducible refine r_in_ret ?_ | with_reducible refine r_sc_ret ?_)
      first
      | exact r_retv2 (Rd.tmp rfl rfl) (congrArg (Value.int .i64) (ruleR_n hp (by assumption)).symm) SelMC.sel SubRC.sub
      | exact r_retv2 (Rd.tmp rfl rfl) (congrArg (Value.int .i64) (ruleR_1 hp (by assumption) (by assumption)).symm) SelMC.sel SubRC.sub
      | exact r_retv2 (Rd.tmp rfl rfl) (congrArg (Value.int .i64) (ruleR_2 hp (by assumption) (by assumption) (by assumption)).symm) SelMC.sel SubRC.sub
      | exact r_retv2 (Rd.tmp rfl rfl) (congrArg (Value.int .i64) (ruleR_3 hp (by assumption) (by assumption) (by assumption) (by assumption)).symm) SelMC.sel SubRC.sub
      | exact r_retv2 (Rd.tmp rfl rfl) (congrArg (Value.int .i64) (ruleR_0 hp (by assumption) (by assumption) (by assumption) (by assumption)).symm) SelMC.sel SubRC.sub
  ·
    first
    | (exfalso; revert hc19; decide)
    | (exfalso; omega)
    | skip
      refine r_skip ?_
      repeat (first | with_reducible refine r_then ?_ | with_reducible refine r_in_normal ?_ | with_reducible refine r_sc_normal ?_)
      refine r_seq ?_
      refine r_seq ?_
      refine r_region ?_
      first | refine o_q _ rfl rfl rfl (v_ldW rfl Try.underlying27 rfl inf27 rfl rfl) ?_ | refine o_q _ rfl rfl rfl (v_lfW rfl Try.underlying27 rfl inf27 rfl rfl) ?_ | refine o_q _ rfl rfl rfl (v_lfN rfl Try.underlying27 rfl inf27 rfl rfl rfl) ?_ | refine o_q _ rfl rfl rfl (v_ldN rfl Try.underlying27 rfl inf27 rfl rfl rfl) ?_ | refine o_q _ rfl rfl rfl (v_loadEN rfl Try.underlying27 rfl inf27 rfl (by omega) rfl rfl rfl) ?_
      refine o_q _ rfl rfl rfl (v_move rfl rfl) ?_
      first | refine o_q _ rfl rfl rfl (v_true (OpQ.fn (until_v _ _ _ i (by omega)) rfl rfl SubRC.sub) (by omega)) ?_ | refine o_q _ rfl rfl rfl (v_false (OpQ.fn (until_v _ _ _ i (by omega)) rfl rfl SubRC.sub) (by omega)) ?_ | refine o_test rfl rfl rfl (OpQ.fn (until_v _ _ _ i (by omega)) rfl rfl SubRC.sub) (fun h22 => ?_) (fun h22 => ?_)
      all_goals
        refine o_q _ rfl rfl rfl (v_not rfl rfl) ?_
        refine o_nil ?_
        repeat (first | with_reducible refine r_then ?_ | with_reducible refine r_in_normal ?_ | with_reducible refine r_sc_normal ?_)
        first | refine r_condd rfl (fun hc23 => ?_) (fun hc23 => ?_) | refine r_cond rfl (fun hc23 => ?_) (fun hc23 => ?_)
        ·
          first
          | (exfalso; revert hc23; decide)
          | (exfalso; omega)
          | skip
            refine r_seq ?_
            refine r_region ?_
            refine o_q _ rfl rfl rfl (v_assign rfl rfl) ?_
            refine o_nil ?_
            repeat (first | with_reducible refine r_then ?_ | with_reducible refine r_in_normal ?_ | with_reducible refine r_sc_normal ?_)
            refine r_ret ?_
            repeat (first | with_reducible refine r_then_ret ?_ | with_reducible refine r_in_ret ?_ | with_reducible refine r_sc_ret ?_)
            first
            | exact r_retv2 (Rd.tmp rfl rfl) (congrArg (Value.int .i64) (ruleR_n hp (by assumption)).symm) SelMC.sel SubRC.sub
            | exact r_retv2 (Rd.tmp rfl rfl) (congrArg (Value.int .i64) (ruleR_1 hp (by assumption) (by assumption)).symm) SelMC.sel SubRC.sub
            | exact r_retv2 (Rd.tmp rfl rfl) (congrArg (Value.int .i64) (ruleR_2 hp (by assumption) (by assumption) (by assumption)).symm) SelMC.sel SubRC.sub
            | exact r_retv2 (Rd.tmp rfl rfl) (congrArg (Value.int .i64) (ruleR_3 hp (by assumption) (by assumption) (by assumption) (by assumption)).symm) SelMC.sel SubRC.sub
            | exact r_retv2 (Rd.tmp rfl rfl) (congrArg (Value.int .i64) (ruleR_0 hp (by assumption) (by assumption) (by assumption) (by assumption)).symm) SelMC.sel SubRC.sub
        ·
          first
          | (exfalso; revert hc23; decide)
          | (exfalso; omega)
          | skip
            refine r_skip ?_
            repeat (first | with_reducible refine r_then ?_ | with_reducible refine r_in_normal ?_ | with_reducible refine r_sc_normal ?_)
            refine r_seq ?_
            refine r_seq ?_
            refine r_region_q mixed (by kernel_rfl) ?_
            first | refine q_q _ rfl rfl rfl (v_ldW rfl Try.underlying26 rfl inf26 rfl rfl) ?_ | refine q_q _ rfl rfl rfl (v_lfW rfl Try.underlying26 rfl inf26 rfl rfl) ?_ | refine q_q _ rfl rfl rfl (v_lfN rfl Try.underlying26 rfl inf26 rfl rfl rfl) ?_ | refine q_q _ rfl rfl rfl (v_ldN rfl Try.underlying26 rfl inf26 rfl rfl rfl) ?_ | refine q_q _ rfl rfl rfl (v_loadEN rfl Try.underlying26 rfl inf26 rfl (by omega) rfl rfl rfl) ?_
            refine q_q _ rfl rfl rfl (v_move rfl rfl) ?_
            first | refine q_q _ rfl rfl rfl (v_ldW rfl Try.underlying27 rfl inf27 rfl rfl) ?_ | refine q_q _ rfl rfl rfl (v_lfW rfl Try.underlying27 rfl inf27 rfl rfl) ?_ | refine q_q _ rfl rfl rfl (v_lfN rfl Try.underlying27 rfl inf27 rfl rfl rfl) ?_ | refine q_q _ rfl rfl rfl (v_ldN rfl Try.underlying27 rfl inf27 rfl rfl rfl) ?_ | refine q_q _ rfl rfl rfl (v_loadEN rfl Try.underlying27 rfl inf27 rfl (by omega) rfl rfl rfl) ?_
            refine q_q _ rfl rfl rfl (v_move rfl rfl) ?_
            refine q_q _ rfl rfl rfl (OpQ.fn (upTo_v _ _ _ i (by omega)) rfl rfl SubRC.sub) ?_
            refine q_q _ rfl rfl rfl (v_move rfl rfl) ?_
            first | refine q_q _ rfl rfl rfl (v_true (OpQ.fn (surely_v F ro ho rc hc (h : Int) _ _ _ i (by omega) (by omega) (by omega) hb (upTo_days hi hd (by omega))) rfl rfl SubRC.sub) (by omega)) ?_ | refine q_q _ rfl rfl rfl (v_false (OpQ.fn (surely_v F ro ho rc hc (h : Int) _ _ _ i (by omega) (by omega) (by omega) hb (upTo_days hi hd (by omega))) rfl rfl SubRC.sub) (by omega)) ?_ | refine q_test rfl rfl rfl (OpQ.fn (surely_v F ro ho rc hc (h : Int) _ _ _ i (by omega) (by omega) (by omega) hb (upTo_days hi hd (by omega))) rfl rfl SubRC.sub) (fun h30 => ?_) (fun h30 => ?_)
            all_goals
              refine q_q _ rfl rfl rfl (v_not rfl rfl) ?_
              refine q_nil ?_
              repeat (first | with_reducible refine r_then ?_ | with_reducible refine r_in_normal ?_ | with_reducible refine r_sc_normal ?_)
              first | refine r_condd rfl (fun hc31 => ?_) (fun hc31 => ?_) | refine r_cond rfl (fun hc31 => ?_) (fun hc31 => ?_)
              ·
                first
                | (exfalso; revert hc31; decide)
                | (exfalso; omega)
                | skip
                  refine r_seq ?_
                  refine r_region ?_
                  refine o_q _ rfl rfl rfl (v_assign rfl rfl) ?_
                  refine o_nil ?_
                  repeat (first | with_reducible refine r_then ?_ | with_reducible refine r_in_normal ?_ | with_reducible refine r_sc_normal ?_)
                  refine r_ret ?_
                  repeat (first | with_reducible refine r_then_ret ?_ | with_reducible refine r_in_ret ?_ | with_reducible refine r_sc_ret ?_)
                  first
                  | exact r_retv2 (Rd.tmp rfl rfl) (congrArg (Value.int .i64) (ruleR_n hp (by assumption)).symm) SelMC.sel SubRC.sub
                  | exact r_retv2 (Rd.tmp rfl rfl) (congrArg (Value.int .i64) (ruleR_1 hp (by assumption) (by assumption)).symm) SelMC.sel SubRC.sub
                  | exact r_retv2 (Rd.tmp rfl rfl) (congrArg (Value.int .i64) (ruleR_2 hp (by assumption) (by assumption) (by assumption)).symm) SelMC.sel SubRC.sub
                  | exact r_retv2 (Rd.tmp rfl rfl) (congrArg (Value.int .i64) (ruleR_3 hp (by assumption) (by assumption) (by assumption) (by assumption)).symm) SelMC.sel SubRC.sub
                  | exact r_retv2 (Rd.tmp rfl rfl) (congrArg (Value.int .i64) (ruleR_0 hp (by assumption) (by assumption) (by assumption) (by assumption)).symm) SelMC.sel SubRC.sub
              ·
                first
                | (exfalso; revert hc31; decide)
                | (exfalso; omega)
                | skip
                  refine r_skip ?_
                  repeat (first | with_reducible refine r_then ?_ | with_reducible refine r_in_normal ?_ | with_reducible refine r_sc_normal ?_)
                  refine r_seq ?_
                  refine r_seq ?_
                  refine r_region ?_
                  refine o_q _ rfl rfl rfl (v_move rfl rfl) ?_
                  refine o_q _ rfl rfl rfl (v_move rfl rfl) ?_
                  refine o_q _ rfl rfl rfl (v_move rfl rfl) ?_
                  first | refine o_q _ rfl rfl rfl (v_indexAddrAn rfl Try.underlying27 inf3 rfl rfl (by omega)) ?_ | refine o_q _ rfl rfl rfl (v_indexAddrA rfl Try.underlying27 inf3 rfl rfl (by omega)) ?_ | refine o_q _ rfl rfl rfl (v_indexAddrE rfl Try.underlying27 inf3 rfl rfl (by omega)) ?_
                  refine o_q _ rfl rfl rfl (v_ld1 rfl Try.underlying3 rfl rfl (t3_atn (by omega))) ?_
                  refine o_q _ rfl rfl rfl (OpQ.fn (before_v l lo lc hl h _ (by omega)) rfl rfl SubRC.sub) ?_
                  refine o_q _ rfl rfl rfl (v_move rfl rfl) ?_
                  refine o_q _ rfl rfl rfl (v_geq rfl rfl rfl) ?_
                  refine o_nil ?_
                  repeat (first | with_reducible refine r_then ?_ | with_reducible refine r_in_normal ?_ | with_reducible refine r_sc_normal ?_)
                  first | refine r_condd rfl (fun hc39 => ?_) (fun hc39 => ?_) | refine r_cond rfl (fun hc39 => ?_) (fun hc39 => ?_)
                  ·
                    first
                    | (exfalso; revert hc39; decide)
                    | (exfalso; omega)
                    | skip
                      refine r_seq ?_
                      refine r_region ?_
                      refine o_q _ rfl rfl rfl (v_assign rfl rfl) ?_
                      refine o_nil ?_
                      repeat (first | with_reducible refine r_then ?_ | with_reducible refine r_in_normal ?_ | with_reducible refine r_sc_normal ?_)
                      refine r_ret ?_
                      repeat (first | with_reducible refine r_then_ret ?_ | with_reducible refine r_in_ret ?_ | with_reducible refine r_sc_ret ?_)
                      first
                      | exact r_retv2 (Rd.tmp rfl rfl) (congrArg (Value.int .i64) (ruleR_n hp (by assumption)).symm) SelMC.sel SubRC.sub
                      | exact r_retv2 (Rd.tmp rfl rfl) (congrArg (Value.int .i64) (ruleR_1 hp (by assumption) (by assumption)).symm) SelMC.sel SubRC.sub
                      | exact r_retv2 (Rd.tmp rfl rfl) (congrArg (Value.int .i64) (ruleR_2 hp (by assumption) (by assumption) (by assumption)).symm) SelMC.sel SubRC.sub
                      | exact r_retv2 (Rd.tmp rfl rfl) (congrArg (Value.int .i64) (ruleR_3 hp (by assumption) (by assumption) (by assumption) (by assumption)).symm) SelMC.sel SubRC.sub
                      | exact r_retv2 (Rd.tmp rfl rfl) (congrArg (Value.int .i64) (ruleR_0 hp (by assumption) (by assumption) (by assumption) (by assumption)).symm) SelMC.sel SubRC.sub
                  ·
                    first
                    | (exfalso; revert hc39; decide)
                    | (exfalso; omega)
                    | skip
                      refine r_skip ?_
                      repeat (first | with_reducible refine r_then ?_ | with_reducible refine r_in_normal ?_ | with_reducible refine r_sc_normal ?_)
                      refine r_seq ?_
                      refine r_region ?_
                      refine o_q _ rfl rfl rfl (v_assign rfl rfl) ?_
                      refine o_nil ?_
                      repeat (first | with_reducible refine r_then ?_ | with_reducible refine r_in_normal ?_ | with_reducible refine r_sc_normal ?_)
                      refine r_ret ?_
                      repeat (first | with_reducible refine r_then_ret ?_ | with_reducible refine r_in_ret ?_ | with_reducible refine r_sc_ret ?_)
                      first
                      | exact r_retv2 (Rd.tmp rfl rfl) (congrArg (Value.int .i64) (ruleR_n hp (by assumption)).symm) SelMC.sel SubRC.sub
                      | exact r_retv2 (Rd.tmp rfl rfl) (congrArg (Value.int .i64) (ruleR_1 hp (by assumption) (by assumption)).symm) SelMC.sel SubRC.sub
                      | exact r_retv2 (Rd.tmp rfl rfl) (congrArg (Value.int .i64) (ruleR_2 hp (by assumption) (by assumption) (by assumption)).symm) SelMC.sel SubRC.sub
                      | exact r_retv2 (Rd.tmp rfl rfl) (congrArg (Value.int .i64) (ruleR_3 hp (by assumption) (by assumption) (by assumption) (by assumption)).symm) SelMC.sel SubRC.sub
                      | exact r_retv2 (Rd.tmp rfl rfl) (congrArg (Value.int .i64) (ruleR_0 hp (by assumption) (by assumption) (by assumption) (by assumption)).symm) SelMC.sel SubRC.sub
set_option maxHeartbeats 4000000 in
theorem BrokenR_r (F : Work) (ro ho : Option Addr) (rc hc : Nat) (hr : F.rain.length ≤ 40) (hh : F.heaps.length ≤ 40) (l : List T3) (lo : Option Addr) (lc : Nat) (hl : l.length ≤ 40) : FnR Try.prog 24 [valF F ro rc ho hc, .slice lo l.length lc] [rowD lo 3 encT l, rowD ro 2 encS F.rain, rowD ho 3 encH F.heaps] (fun v => ∃ x : Int × Int × Int × Int, v = .tuple #[i64 x.1, i64 x.2.1, i64 x.2.2.1, i64 x.2.2.2] ∧ BrokeR F l x) (fun _ => []) := by
  refine FnR.intro Try.call24 Try.func24 rfl Try.ntmps24 rfl ?_
  intro W M Rf
  refine r_seq ?_
  refine r_region ?_
  refine o_boxA rfl rfl rfl rfl rfl (fun b2 => ?_)
  refine o_q _ rfl rfl rfl (v_assign rfl rfl) ?_
  refine o_q _ rfl rfl rfl (v_assign rfl rfl) ?_
  refine o_q _ rfl rfl rfl (v_assign rfl rfl) ?_
  refine o_q _ rfl rfl rfl (v_assign rfl rfl) ?_
  refine o_nil ?_
  repeat (first | with_reducible refine r_then ?_ | with_reducible refine r_in_normal ?_ | with_reducible refine r_sc_normal ?_)
  refine r_seq ?_
  refine r_region_q mixed (by kernel_rfl) ?_
  first | refine q_q _ rfl rfl rfl (v_ldW rfl Try.underlying26 rfl inf26 rfl rfl) ?_ | refine q_q _ rfl rfl rfl (v_lfW rfl Try.underlying26 rfl inf26 rfl rfl) ?_ | refine q_q _ rfl rfl rfl (v_lfN rfl Try.underlying26 rfl inf26 rfl rfl rfl) ?_ | refine q_q _ rfl rfl rfl (v_ldN rfl Try.underlying26 rfl inf26 rfl rfl rfl) ?_ | refine q_q _ rfl rfl rfl (v_loadEN rfl Try.underlying26 rfl inf26 rfl (by omega) rfl rfl rfl) ?_
  first | refine q_q _ rfl rfl rfl (v_ldW rfl Try.underlying26 rfl inf26 rfl rfl) ?_ | refine q_q _ rfl rfl rfl (v_lfW rfl Try.underlying26 rfl inf26 rfl rfl) ?_ | refine q_q _ rfl rfl rfl (v_lfN rfl Try.underlying26 rfl inf26 rfl rfl rfl) ?_ | refine q_q _ rfl rfl rfl (v_ldN rfl Try.underlying26 rfl inf26 rfl rfl rfl) ?_ | refine q_q _ rfl rfl rfl (v_loadEN rfl Try.underlying26 rfl inf26 rfl (by omega) rfl rfl rfl) ?_
  refine q_q _ rfl rfl rfl (v_move rfl rfl) ?_
  refine q_q _ rfl rfl rfl (OpQ.fn (List_v F ro ho rc hc hr hh l lo lc hl) rfl rfl SubRC.sub) ?_
  refine q_q _ rfl rfl rfl (OpQ.fn (check_v F ro ho rc hc _ hr hh) rfl rfl SubRC.sub) ?_
  refine q_q _ rfl rfl rfl (v_assign rfl rfl) ?_
  refine q_nil ?_
  repeat (first | with_reducible refine r_then ?_ | with_reducible refine r_in_normal ?_ | with_reducible refine r_sc_normal ?_)
  refine r_seq ?_
  refine r_seq ?_
  refine r_region ?_
  refine o_q _ rfl rfl rfl (v_move rfl rfl) ?_
  refine o_q _ rfl rfl rfl (v_neq rfl rfl rfl) ?_
  refine o_nil ?_
  repeat (first | with_reducible refine r_then ?_ | with_reducible refine r_in_normal ?_ | with_reducible refine r_sc_normal ?_)
  first | refine r_condd rfl (fun hc18 => ?_) (fun hc18 => ?_) | refine r_cond rfl (fun hc18 => ?_) (fun hc18 => ?_)
  ·
    first
    | (exfalso; revert hc18; decide)
    | (exfalso; omega)
    | skip
      refine r_seq ?_
      refine r_region ?_
      refine o_q _ rfl rfl rfl (v_move rfl rfl) ?_
      refine o_q _ rfl rfl rfl (v_assign rfl rfl) ?_
      refine o_q _ rfl rfl rfl (v_assign rfl rfl) ?_
      refine o_q _ rfl rfl rfl (v_assign rfl rfl) ?_
      refine o_q _ rfl rfl rfl (v_assign rfl rfl) ?_
      refine o_nil ?_
      repeat (first | with_reducible refine r_then ?_ | with_reducible refine r_in_normal ?_ | with_reducible refine r_sc_normal ?_)
      refine r_ret ?_
      repeat (first | with_reducible refine r_then_ret ?_ | with_reducible refine r_in_ret ?_ | with_reducible refine r_sc_ret ?_)
      first
      | exact r_retr (Rd.four rfl (RdI.tmp rfl) (RdI.tmp rfl) (RdI.tmp rfl) (RdI.tmp rfl)) ⟨((k : Int), (j : Int), ruleR F l F.men k j, 0), rfl, BrokeR_at hg hlo (by assumption) (by omega) (by omega) hI0.2 hI1.2⟩ SelMC.sel SubRC.sub
      | exact r_retr (Rd.four rfl (RdI.tmp rfl) (RdI.tmp rfl) (RdI.tmp rfl) (RdI.tmp rfl)) ⟨(0, 0, 0, 4), rfl, BrokeR_none hg hlo (fun h hh => hI0.2 h (by omega))⟩ SelMC.sel SubRC.sub
      | exact r_retr (Rd.four rfl (RdI.tmp rfl) (RdI.tmp rfl) (RdI.tmp rfl) (RdI.tmp rfl)) ⟨(0, 0, 0, chk F (decide (ListOk F l))), rfl, BrokeR_of _ rfl (by assumption)⟩ SelMC.sel SubRC.sub
  ·
    first
    | (exfalso; revert hc18; decide)
    | (exfalso; omega)
    | skip
      refine r_skip ?_
      repeat (first | with_reducible refine r_then ?_ | with_reducible refine r_in_normal ?_ | with_reducible refine r_sc_normal ?_)
      refine r_seq ?_
      refine r_seq ?_
      obtain ⟨hg, hb⟩ := chk_zero hc18
      have hlo := ListOk_of hc18
      have hn1 : 1 ≤ F.rain.length := by have := hg.1; omega
      refine r_region ?_
      refine o_q _ rfl rfl rfl (v_assign rfl rfl) ?_
      refine o_nil ?_
      repeat (first | with_reducible refine r_then ?_ | with_reducible refine r_in_normal ?_ | with_reducible refine r_sc_normal ?_)
      refine r_block ?_
      refine r_loop (ι := Nat) (fun k => k ≤ l.length ∧ ∀ h, h < k → ∀ i, i < 3 → ruleR F l F.men h i = 0) (fun k => [(1, .slice lo l.length lc), (2, pt b2 0), (9, i64 k)]) (fun k => bx b2 26 (cellsF F ro rc ho hc) :: M) (fun k => [rowD lo 3 encT l, rowD ro 2 encS F.rain, rowD ho 3 encH F.heaps] ++ Rf) (fun k => l.length - k) 0 ?_ ?_ ?_
      ·
        exact r_here (by repeat (first | exact FSub.nil | refine FSub.cons rfl ?_)) SelMC.sel SubRC.sub
      ·
        exact ⟨Nat.zero_le _, fun h hh => absurd hh (by omega)⟩
      ·
        rintro k hI0
        refine r_seq ?_
        refine r_seq ?_
        refine r_region ?_
        refine o_q _ rfl rfl rfl (v_move rfl rfl) ?_
        refine o_q _ rfl rfl rfl (v_move rfl rfl) ?_
        refine o_q _ rfl rfl rfl (v_len rfl rfl Try.underlying40 rfl) ?_
        refine o_q _ rfl rfl rfl (v_lss rfl rfl rfl) ?_
        refine o_nil ?_
        repeat (first | with_reducible refine r_then ?_ | with_reducible refine r_in_normal ?_ | with_reducible refine r_sc_normal ?_)
        first | refine r_condd rfl (fun hc23 => ?_) (fun hc23 => ?_) | refine r_cond rfl (fun hc23 => ?_) (fun hc23 => ?_)
        ·
          first
          | (exfalso; revert hc23; decide)
          | (exfalso; omega)
          | skip
            refine r_skip ?_
            repeat (first | with_reducible refine r_then ?_ | with_reducible refine r_in_normal ?_ | with_reducible refine r_sc_normal ?_)
            refine r_seq ?_
            refine r_block ?_
            refine r_seq ?_
            refine r_region ?_
            refine o_q _ rfl rfl rfl (v_assign rfl rfl) ?_
            refine o_nil ?_
            repeat (first | with_reducible refine r_then ?_ | with_reducible refine r_in_normal ?_ | with_reducible refine r_sc_normal ?_)
            refine r_block ?_
            refine r_loop (ι := Nat) (fun j => j ≤ 3 ∧ ∀ i, i < j → ruleR F l F.men k i = 0) (fun j => [(1, .slice lo l.length lc), (2, pt b2 0), (9, i64 k), (10, i64 j)]) (fun j => bx b2 26 (cellsF F ro rc ho hc) :: M) (fun j => [rowD lo 3 encT l, rowD ro 2 encS F.rain, rowD ho 3 encH F.heaps] ++ Rf) (fun j => 3 - j) 0 ?_ ?_ ?_
            ·
              exact r_here (by repeat (first | exact FSub.nil | refine FSub.cons rfl ?_)) SelMC.sel SubRC.sub
            ·
              exact ⟨Nat.zero_le _, fun h hh => absurd hh (by omega)⟩
            ·
              rintro j hI1
              refine r_seq ?_
              refine r_seq ?_
              refine r_region ?_
              refine o_q _ rfl rfl rfl (v_move rfl rfl) ?_
              refine o_q _ rfl rfl rfl (v_lss rfl rfl rfl) ?_
              refine o_nil ?_
              repeat (first | with_reducible refine r_then ?_ | with_reducible refine r_in_normal ?_ | with_reducible refine r_sc_normal ?_)
              first | refine r_condd rfl (fun hc27 => ?_) (fun hc27 => ?_) | refine r_cond rfl (fun hc27 => ?_) (fun hc27 => ?_)
              ·
                first
                | (exfalso; revert hc27; decide)
                | (exfalso; omega)
                | skip
                  refine r_skip ?_
                  repeat (first | with_reducible refine r_then ?_ | with_reducible refine r_in_normal ?_ | with_reducible refine r_sc_normal ?_)
                  refine r_seq ?_
                  refine r_block ?_
                  refine r_seq ?_
                  refine r_region ?_
                  first | refine o_q _ rfl rfl rfl (v_ldW rfl Try.underlying26 rfl inf26 rfl rfl) ?_ | refine o_q _ rfl rfl rfl (v_lfW rfl Try.underlying26 rfl inf26 rfl rfl) ?_ | refine o_q _ rfl rfl rfl (v_lfN rfl Try.underlying26 rfl inf26 rfl rfl rfl) ?_ | refine o_q _ rfl rfl rfl (v_ldN rfl Try.underlying26 rfl inf26 rfl rfl rfl) ?_ | refine o_q _ rfl rfl rfl (v_loadEN rfl Try.underlying26 rfl inf26 rfl (by omega) rfl rfl rfl) ?_
                  refine o_q _ rfl rfl rfl (v_move rfl rfl) ?_
                  refine o_q _ rfl rfl rfl (v_move rfl rfl) ?_
                  refine o_q _ rfl rfl rfl (v_move rfl rfl) ?_
                  first | refine o_q _ rfl rfl rfl (v_fieldAddr rfl Try.underlying26 inf3 rfl rfl rfl rfl) ?_ | refine o_q _ rfl rfl rfl (v_fieldAddrE rfl Try.underlying26 inf3 rfl rfl rfl rfl) ?_
                  first | refine o_q _ rfl rfl rfl (v_ld1 rfl Try.underlying3 rfl rfl rfl) ?_ | refine o_q _ rfl rfl rfl (v_lf1 rfl Try.underlying3 rfl rfl rfl) ?_ | refine o_q _ rfl rfl rfl (v_loadE1 rfl Try.underlying3 rfl rfl (by omega) rfl rfl) ?_
                  refine o_q _ rfl rfl rfl (OpQ.fn (rule_v F ro ho rc hc hr hh l lo lc hl k j F.men (by have := hlo.1; omega) (by omega) (by omega) hb hn1 (hlo.2 k (by omega))) rfl rfl SubRC.sub) ?_
                  refine o_q _ rfl rfl rfl (v_assign rfl rfl) ?_
                  refine o_nil ?_
                  repeat (first | with_reducible refine r_then ?_ | with_reducible refine r_in_normal ?_ | with_reducible refine r_sc_normal ?_)
                  refine r_seq ?_
                  refine r_region ?_
                  refine o_q _ rfl rfl rfl (v_move rfl rfl) ?_
                  refine o_q _ rfl rfl rfl (v_neq rfl rfl rfl) ?_
                  refine o_nil ?_
                  repeat (first | with_reducible refine r_then ?_ | with_reducible refine r_in_normal ?_ | with_reducible refine r_sc_normal ?_)
                  first | refine r_condd rfl (fun hc38 => ?_) (fun hc38 => ?_) | refine r_cond rfl (fun hc38 => ?_) (fun hc38 => ?_)
                  ·
                    first
                    | (exfalso; revert hc38; decide)
                    | (exfalso; omega)
                    | skip
                      refine r_seq ?_
                      refine r_region ?_
                      refine o_q _ rfl rfl rfl (v_move rfl rfl) ?_
                      refine o_q _ rfl rfl rfl (v_move rfl rfl) ?_
                      refine o_q _ rfl rfl rfl (v_move rfl rfl) ?_
                      refine o_q _ rfl rfl rfl (v_assign rfl rfl) ?_
                      refine o_q _ rfl rfl rfl (v_assign rfl rfl) ?_
                      refine o_q _ rfl rfl rfl (v_assign rfl rfl) ?_
                      refine o_q _ rfl rfl rfl (v_assign rfl rfl) ?_
                      refine o_nil ?_
                      repeat (first | with_reducible refine r_then ?_ | with_reducible refine r_in_normal ?_ | with_reducible refine r_sc_normal ?_)
                      refine r_ret ?_
                      repeat (first | with_reducible refine r_then_ret ?_ | with_reducible refine r_in_ret ?_ | with_reducible refine r_sc_ret ?_)
                      first
                      | exact r_retr (Rd.four rfl (RdI.tmp rfl) (RdI.tmp rfl) (RdI.tmp rfl) (RdI.tmp rfl)) ⟨((k : Int), (j : Int), ruleR F l F.men k j, 0), rfl, BrokeR_at hg hlo (by assumption) (by omega) (by omega) hI0.2 hI1.2⟩ SelMC.sel SubRC.sub
                      | exact r_retr (Rd.four rfl (RdI.tmp rfl) (RdI.tmp rfl) (RdI.tmp rfl) (RdI.tmp rfl)) ⟨(0, 0, 0, 4), rfl, BrokeR_none hg hlo (fun h hh => hI0.2 h (by omega))⟩ SelMC.sel SubRC.sub
                      | exact r_retr (Rd.four rfl (RdI.tmp rfl) (RdI.tmp rfl) (RdI.tmp rfl) (RdI.tmp rfl)) ⟨(0, 0, 0, chk F (decide (ListOk F l))), rfl, BrokeR_of _ rfl (by assumption)⟩ SelMC.sel SubRC.sub
                  ·
                    first
                    | (exfalso; revert hc38; decide)
                    | (exfalso; omega)
                    | skip
                      refine r_skip ?_
                      repeat (first | with_reducible refine r_then ?_ | with_reducible refine r_in_normal ?_ | with_reducible refine r_sc_normal ?_)
                      refine r_region ?_
                      refine o_q _ rfl rfl rfl (v_move rfl rfl) ?_
                      refine o_q _ rfl rfl rfl (v_add rfl rfl rfl (by omega)) ?_
                      refine o_q _ rfl rfl rfl (v_assign rfl rfl) ?_
                      refine o_nil ?_
                      repeat (first | with_reducible refine r_then ?_ | with_reducible refine r_in_normal ?_ | with_reducible refine r_sc_normal ?_)
                      refine r_next (j + 1) ?_ ?_ ?_
                      ·
                        exact r_here (by repeat (first | exact FSub.nil | refine FSub.cons rfl ?_)) SelMC.sel SubRC.sub
                      ·
                        exact ⟨by omega, all_step hI1.2 (Classical.not_not.1 (by assumption))⟩
                      ·
                        omega
              ·
                first
                | (exfalso; revert hc27; decide)
                | (exfalso; omega)
                | skip
                  refine r_exit ?_
                  repeat (first | with_reducible refine r_then_exit ?_ | with_reducible refine r_sc_exit ?_ | with_reducible refine r_in_here ?_ | (with_reducible refine r_in_past (by decide) ?_) | with_reducible refine r_then ?_ | with_reducible refine r_in_normal ?_ | with_reducible refine r_sc_normal ?_)
                  refine r_region ?_
                  refine o_q _ rfl rfl rfl (v_move rfl rfl) ?_
                  refine o_q _ rfl rfl rfl (v_add rfl rfl rfl (by omega)) ?_
                  refine o_q _ rfl rfl rfl (v_assign rfl rfl) ?_
                  refine o_nil ?_
                  repeat (first | with_reducible refine r_then ?_ | with_reducible refine r_in_normal ?_ | with_reducible refine r_sc_normal ?_)
                  refine r_next (k + 1) ?_ ?_ ?_
                  ·
                    exact r_here (by repeat (first | exact FSub.nil | refine FSub.cons rfl ?_)) SelMC.sel SubRC.sub
                  ·
                    exact ⟨by omega, all_step hI0.2 (fun i hi => hI1.2 i (by omega))⟩
                  ·
                    omega
        ·
          first
          | (exfalso; revert hc23; decide)
          | (exfalso; omega)
          | skip
            refine r_exit ?_
            repeat (first | with_reducible refine r_then_exit ?_ | with_reducible refine r_sc_exit ?_ | with_reducible refine r_in_here ?_ | (with_reducible refine r_in_past (by decide) ?_) | with_reducible refine r_then ?_ | with_reducible refine r_in_normal ?_ | with_reducible refine r_sc_normal ?_)
            refine r_seq ?_
            refine r_region ?_
            refine o_q _ rfl rfl rfl (v_assign rfl rfl) ?_
            refine o_q _ rfl rfl rfl (v_assign rfl rfl) ?_
            refine o_q _ rfl rfl rfl (v_assign rfl rfl) ?_
            refine o_q _ rfl rfl rfl (v_assign rfl rfl) ?_
            refine o_nil ?_
            repeat (first | with_reducible refine r_then ?_ | with_reducible refine r_in_normal ?_ | with_reducible refine r_sc_normal ?_)
            refine r_ret ?_
            repeat (first | with_reducible refine r_then_ret ?_ | with_reducible refine r_in_ret ?_ | with_reducible refine r_sc_ret ?_)
            first
            | exact r_retr (Rd.four rfl (RdI.tmp rfl) (RdI.tmp rfl) (RdI.tmp rfl) (RdI.tmp rfl)) ⟨((k : Int), (j : Int), ruleR F l F.men k j, 0), rfl, BrokeR_at hg hlo (by assumption) (by omega) (by omega) hI0.2 hI1.2⟩ SelMC.sel SubRC.sub
            | exact r_retr (Rd.four rfl (RdI.tmp rfl) (RdI.tmp rfl) (RdI.tmp rfl) (RdI.tmp rfl)) ⟨(0, 0, 0, 4), rfl, BrokeR_none hg hlo (fun h hh => hI0.2 h (by omega))⟩ SelMC.sel SubRC.sub
            | exact r_retr (Rd.four rfl (RdI.tmp rfl) (RdI.tmp rfl) (RdI.tmp rfl) (RdI.tmp rfl)) ⟨(0, 0, 0, chk F (decide (ListOk F l))), rfl, BrokeR_of _ rfl (by assumption)⟩ SelMC.sel SubRC.sub
theorem canRQ_y {F : Work} {k j : Nat} (hj : j = (whole F.rain.length).length) (h : ∃ i, i < j ∧ ¬ keptR F k ((whole F.rain.length).getD i default) = 0) : canRQ F k = true := decide_eq_true (hj ▸ h)
theorem canRQ_n {F : Work} {k j : Nat} (hj : j = (whole F.rain.length).length) (h : ¬ ∃ i, i < j ∧ ¬ keptR F k ((whole F.rain.length).getD i default) = 0) : ¬ canRQ F k = true := fun x => h (hj ▸ of_decide_eq_true x)
set_option maxHeartbeats 4000000 in
theorem ClampR_v (F : Work) (ro ho : Option Addr) (rc hc : Nat) (hr : F.rain.length ≤ 40) (hh : F.heaps.length ≤ 40) : FnV Try.prog 22 [valF F ro rc ho hc] [rowD ro 2 encS F.rain, rowD ho 3 encH F.heaps] (.tuple #[i64 (clampR F).1, i64 (clampR F).2.1, i64 (clampR F).2.2]) := by
  refine FnV.intro Try.call22 Try.func22 rfl Try.ntmps22 rfl ?_
  intro W M Rf
  refine r_seq ?_
  refine r_region ?_
  refine o_boxA rfl rfl rfl rfl rfl (fun b1 => ?_)
  refine o_q _ rfl rfl rfl (v_assign rfl rfl) ?_
  refine o_q _ rfl rfl rfl (v_assign rfl rfl) ?_
  refine o_q _ rfl rfl rfl (v_assign rfl rfl) ?_
  refine o_nil ?_
  repeat (first | with_reducible refine r_then ?_ | with_reducible refine r_in_normal ?_ | with_reducible refine r_sc_normal ?_)
  refine r_seq ?_
  refine r_region ?_
  first | refine o_q _ rfl rfl rfl (v_ldW rfl Try.underlying26 rfl inf26 rfl rfl) ?_ | refine o_q _ rfl rfl rfl (v_lfW rfl Try.underlying26 rfl inf26 rfl rfl) ?_ | refine o_q _ rfl rfl rfl (v_lfN rfl Try.underlying26 rfl inf26 rfl rfl rfl) ?_ | refine o_q _ rfl rfl rfl (v_ldN rfl Try.underlying26 rfl inf26 rfl rfl rfl) ?_ | refine o_q _ rfl rfl rfl (v_loadEN rfl Try.underlying26 rfl inf26 rfl (by omega) rfl rfl rfl) ?_
  refine o_q _ rfl rfl rfl (OpQ.fn (check_v F ro ho rc hc _ hr hh) rfl rfl SubRC.sub) ?_
  refine o_q _ rfl rfl rfl (v_assign rfl rfl) ?_
  refine o_nil ?_
  repeat (first | with_reducible refine r_then ?_ | with_reducible refine r_in_normal ?_ | with_reducible refine r_sc_normal ?_)
  refine r_seq ?_
  refine r_seq ?_
  refine r_region ?_
  refine o_q _ rfl rfl rfl (v_move rfl rfl) ?_
  refine o_q _ rfl rfl rfl (v_neq rfl rfl rfl) ?_
  refine o_nil ?_
  repeat (first | with_reducible refine r_then ?_ | with_reducible refine r_in_normal ?_ | with_reducible refine r_sc_normal ?_)
  first | refine r_condd rfl (fun hc15 => ?_) (fun hc15 => ?_) | refine r_cond rfl (fun hc15 => ?_) (fun hc15 => ?_)
  ·
    first
    | (exfalso; revert hc15; decide)
    | (exfalso; omega)
    | skip
      refine r_seq ?_
      refine r_region ?_
      refine o_q _ rfl rfl rfl (v_move rfl rfl) ?_
      refine o_q _ rfl rfl rfl (v_assign rfl rfl) ?_
      refine o_q _ rfl rfl rfl (v_assign rfl rfl) ?_
      refine o_q _ rfl rfl rfl (v_assign rfl rfl) ?_
      refine o_nil ?_
      repeat (first | with_reducible refine r_then ?_ | with_reducible refine r_in_normal ?_ | with_reducible refine r_sc_normal ?_)
      refine r_ret ?_
      repeat (first | with_reducible refine r_then_ret ?_ | with_reducible refine r_in_ret ?_ | with_reducible refine r_sc_ret ?_)
      first
      | (rw [clampR_ok hg, show F.heaps.length = k from by omega]; exact r_retv2 (Rd.three rfl (RdI.tmp rfl) (RdI.tmp rfl) (RdI.tmp rfl)) rfl SelMC.sel SubRC.sub)
      | (rw [clampR_bad (by assumption)]; exact r_retv2 (Rd.three rfl (RdI.tmp rfl) (RdI.tmp rfl) (RdI.tmp rfl)) rfl SelMC.sel SubRC.sub)
  ·
    first
    | (exfalso; revert hc15; decide)
    | (exfalso; omega)
    | skip
      refine r_skip ?_
      repeat (first | with_reducible refine r_then ?_ | with_reducible refine r_in_normal ?_ | with_reducible refine r_sc_normal ?_)
      refine r_seq ?_
      obtain ⟨hg, hb⟩ := chk_zero hc15
      have hl3 := hg.2.2.1
      have hwl := whole_le hb.len
      refine r_region ?_
      refine o_q _ rfl rfl rfl (v_assign rfl rfl) ?_
      refine o_q _ rfl rfl rfl (v_assign rfl rfl) ?_
      refine o_nil ?_
      repeat (first | with_reducible refine r_then ?_ | with_reducible refine r_in_normal ?_ | with_reducible refine r_sc_normal ?_)
      refine r_seq ?_
      refine r_region ?_
      first | refine o_q _ rfl rfl rfl (v_ldW rfl Try.underlying26 rfl inf26 rfl rfl) ?_ | refine o_q _ rfl rfl rfl (v_lfW rfl Try.underlying26 rfl inf26 rfl rfl) ?_ | refine o_q _ rfl rfl rfl (v_lfN rfl Try.underlying26 rfl inf26 rfl rfl rfl) ?_ | refine o_q _ rfl rfl rfl (v_ldN rfl Try.underlying26 rfl inf26 rfl rfl rfl) ?_ | refine o_q _ rfl rfl rfl (v_loadEN rfl Try.underlying26 rfl inf26 rfl (by omega) rfl rfl rfl) ?_
      refine o_fns (whole_r F ro ho rc hc hb.len) rfl rfl rfl rfl rfl SubRC.sub (fun oa18 cp18 => ?_)
      refine o_q _ rfl rfl rfl (v_assign rfl rfl) ?_
      refine o_nil ?_
      repeat (first | with_reducible refine r_then ?_ | with_reducible refine r_in_normal ?_ | with_reducible refine r_sc_normal ?_)
      refine r_seq ?_
      refine r_seq ?_
      refine r_region ?_
      refine o_q _ rfl rfl rfl (v_assign rfl rfl) ?_
      refine o_nil ?_
      repeat (first | with_reducible refine r_then ?_ | with_reducible refine r_in_normal ?_ | with_reducible refine r_sc_normal ?_)
      refine r_block ?_
      refine r_loop (ι := Nat) (fun k => k ≤ F.heaps.length) (fun k => [(1, pt b1 0), (6, i64 (sumP (sureRQ F) k)), (7, i64 (sumP (canRQ F) k)), (8, .slice oa18 (whole F.rain.length).length cp18), (9, i64 k)]) (fun k => bx b1 26 (cellsF F ro rc ho hc) :: M) (fun k => rowD oa18 3 encT (whole F.rain.length) :: ([rowD ro 2 encS F.rain, rowD ho 3 encH F.heaps] ++ Rf)) (fun k => F.heaps.length - k) 0 ?_ ?_ ?_
      ·
        exact r_here (by repeat (first | exact FSub.nil | refine FSub.cons rfl ?_)) SelMC.sel SubRC.sub
      ·
        omega
      ·
        rintro k hI0
        have hs1 := sumP_bd (sureRQ F) k
        have hs2 := sumP_bd (canRQ F) k
        have hpw := pw_bd (k := k) (by omega)
        have hpw1 : pw (k + 1) = 2 * pw k := rfl
        refine r_seq ?_
        refine r_seq ?_
        refine r_region ?_
        refine o_q _ rfl rfl rfl (v_move rfl rfl) ?_
        first | refine o_q _ rfl rfl rfl (v_fieldAddr rfl Try.underlying26 inf24 rfl rfl rfl rfl) ?_ | refine o_q _ rfl rfl rfl (v_fieldAddrE rfl Try.underlying26 inf24 rfl rfl rfl rfl) ?_
        first | refine o_q _ rfl rfl rfl (v_ld1 rfl Try.underlying24 rfl rfl rfl) ?_ | refine o_q _ rfl rfl rfl (v_lf1 rfl Try.underlying24 rfl rfl rfl) ?_ | refine o_q _ rfl rfl rfl (v_loadE1 rfl Try.underlying24 rfl rfl (by omega) rfl rfl) ?_
        refine o_q _ rfl rfl rfl (v_len rfl rfl Try.underlying24 rfl) ?_
        refine o_q _ rfl rfl rfl (v_lss rfl rfl rfl) ?_
        refine o_nil ?_
        repeat (first | with_reducible refine r_then ?_ | with_reducible refine r_in_normal ?_ | with_reducible refine r_sc_normal ?_)
        first | refine r_condd rfl (fun hc23 => ?_) (fun hc23 => ?_) | refine r_cond rfl (fun hc23 => ?_) (fun hc23 => ?_)
        ·
          first
          | (exfalso; revert hc23; decide)
          | (exfalso; omega)
          | skip
            refine r_skip ?_
            repeat (first | with_reducible refine r_then ?_ | with_reducible refine r_in_normal ?_ | with_reducible refine r_sc_normal ?_)
            refine r_seq ?_
            refine r_block ?_
            refine r_seq ?_
            refine r_seq ?_
            refine r_region ?_
            first | refine o_q _ rfl rfl rfl (v_ldW rfl Try.underlying26 rfl inf26 rfl rfl) ?_ | refine o_q _ rfl rfl rfl (v_lfW rfl Try.underlying26 rfl inf26 rfl rfl) ?_ | refine o_q _ rfl rfl rfl (v_lfN rfl Try.underlying26 rfl inf26 rfl rfl rfl) ?_ | refine o_q _ rfl rfl rfl (v_ldN rfl Try.underlying26 rfl inf26 rfl rfl rfl) ?_ | refine o_q _ rfl rfl rfl (v_loadEN rfl Try.underlying26 rfl inf26 rfl (by omega) rfl rfl rfl) ?_
            refine o_q _ rfl rfl rfl (v_move rfl rfl) ?_
            refine o_fns (sureR_r F ro ho rc hc (k : Int) (by omega) (by omega) hb) rfl rfl rfl rfl rfl SubRC.sub (fun oa28 cp28 => ?_)
            refine o_q _ rfl rfl rfl (v_len rfl rfl Try.underlying40 rfl) ?_
            refine o_q _ rfl rfl rfl (v_gtr rfl rfl rfl) ?_
            refine o_nil ?_
            repeat (first | with_reducible refine r_then ?_ | with_reducible refine r_in_normal ?_ | with_reducible refine r_sc_normal ?_)
            first | refine r_condd rfl (fun hc30 => ?_) (fun hc30 => ?_) | refine r_cond rfl (fun hc30 => ?_) (fun hc30 => ?_)
            ·
              first
              | (exfalso; revert hc30; decide)
              | (exfalso; omega)
              | skip
                refine r_region ?_
                refine o_q _ rfl rfl rfl (v_move rfl rfl) ?_
                refine o_q _ rfl rfl rfl (v_move rfl rfl) ?_
                refine o_q _ rfl rfl rfl (OpQ.fn (power_v k (by omega)) rfl rfl SubRC.sub) ?_
                refine o_q _ rfl rfl rfl (v_add rfl rfl rfl (by omega)) ?_
                refine o_q _ rfl rfl rfl (v_assign rfl rfl) ?_
                refine o_nil ?_
                repeat (first | with_reducible refine r_then ?_ | with_reducible refine r_in_normal ?_ | with_reducible refine r_sc_normal ?_)
                refine r_seq ?_
                refine r_region ?_
                refine o_q _ rfl rfl rfl (v_assign rfl rfl) ?_
                refine o_nil ?_
                repeat (first | with_reducible refine r_then ?_ | with_reducible refine r_in_normal ?_ | with_reducible refine r_sc_normal ?_)
                refine r_seq ?_
                refine r_seq ?_
                refine r_region ?_
                refine o_q _ rfl rfl rfl (v_assign rfl rfl) ?_
                refine o_nil ?_
                repeat (first | with_reducible refine r_then ?_ | with_reducible refine r_in_normal ?_ | with_reducible refine r_sc_normal ?_)
                refine r_block ?_
                refine r_loop (ι := Nat) (fun j => j ≤ (whole F.rain.length).length) (fun j => [(1, pt b1 0), (6, i64 (sumP (sureRQ F) (k + 1))), (7, i64 (sumP (canRQ F) k)), (8, .slice oa18 (whole F.rain.length).length cp18), (9, i64 k), (10, .bool (decide (∃ i, i < j ∧ ¬ keptR F k ((whole F.rain.length).getD i default) = 0))), (11, i64 j)]) (fun j => bx b1 26 (cellsF F ro rc ho hc) :: M) (fun j => rowD oa18 3 encT (whole F.rain.length) :: ([rowD ro 2 encS F.rain, rowD ho 3 encH F.heaps] ++ Rf)) (fun j => (whole F.rain.length).length - j) 0 ?_ ?_ ?_
                ·
                  exact r_here (by repeat (first | exact FSub.nil | refine FSub.cons rfl ?_ | refine FSub.cons2 rfl (congrArg (Value.int .i64) (by first | exact sumP_yes (decide_eq_true (by assumption)) | exact sumP_no (fun x => absurd (of_decide_eq_true x) (by assumption)))) ?_ | refine FSub.cons2 rfl (congrArg Value.bool (decide_eq_false (fun ⟨_, h, _⟩ => absurd h (by omega))).symm) ?_)) SelMC.sel SubRC.sub
                ·
                  omega
                ·
                  rintro j hI1
                  refine r_seq ?_
                  refine r_seq ?_
                  refine r_region ?_
                  refine o_q _ rfl rfl rfl (v_move rfl rfl) ?_
                  refine o_q _ rfl rfl rfl (v_move rfl rfl) ?_
                  refine o_q _ rfl rfl rfl (v_len rfl rfl Try.underlying40 rfl) ?_
                  refine o_q _ rfl rfl rfl (v_lss rfl rfl rfl) ?_
                  refine o_nil ?_
                  repeat (first | with_reducible refine r_then ?_ | with_reducible refine r_in_normal ?_ | with_reducible refine r_sc_normal ?_)
                  first | refine r_condd rfl (fun hc38 => ?_) (fun hc38 => ?_) | refine r_cond rfl (fun hc38 => ?_) (fun hc38 => ?_)
                  ·
                    first
                    | (exfalso; revert hc38; decide)
                    | (exfalso; omega)
                    | skip
                      refine r_skip ?_
                      repeat (first | with_reducible refine r_then ?_ | with_reducible refine r_in_normal ?_ | with_reducible refine r_sc_normal ?_)
                      refine r_seq ?_
                      refine r_block ?_
                      refine r_region_q mixed (by kernel_rfl) ?_
                      refine q_q _ rfl rfl rfl (v_move rfl rfl) ?_
                      first | refine q_q _ rfl rfl rfl (v_true (v_move rfl rfl) (by omega)) ?_ | refine q_q _ rfl rfl rfl (v_false (v_move rfl rfl) (by omega)) ?_ | refine q_test rfl rfl rfl (v_move rfl rfl) (fun h42 => ?_) (fun h42 => ?_)
                      all_goals
                        first | refine q_gn rfl rfl rfl rfl ?_ | refine q_g _ rfl rfl rfl rfl (v_ldW rfl Try.underlying26 rfl inf26 rfl rfl) ?_ | refine q_g _ rfl rfl rfl rfl (v_lfW rfl Try.underlying26 rfl inf26 rfl rfl) ?_ | refine q_g _ rfl rfl rfl rfl (v_lfN rfl Try.underlying26 rfl inf26 rfl rfl rfl) ?_ | refine q_g _ rfl rfl rfl rfl (v_ldN rfl Try.underlying26 rfl inf26 rfl rfl rfl) ?_ | refine q_g _ rfl rfl rfl rfl (v_loadEN rfl Try.underlying26 rfl inf26 rfl (by omega) rfl rfl rfl) ?_
                        first | refine q_gn rfl rfl rfl rfl ?_ | refine q_g _ rfl rfl rfl rfl (v_move rfl rfl) ?_
                        first | refine q_gn rfl rfl rfl rfl ?_ | refine q_g _ rfl rfl rfl rfl (v_move rfl rfl) ?_
                        first | refine q_gn rfl rfl rfl rfl ?_ | refine q_g _ rfl rfl rfl rfl (v_move rfl rfl) ?_
                        first | refine q_gn rfl rfl rfl rfl ?_ | refine q_g _ rfl rfl rfl rfl (v_indexAddrSn rfl Try.underlying40 inf27 rfl rfl rfl (by omega) rfl) ?_ | refine q_g _ rfl rfl rfl rfl (v_indexAddrS rfl Try.underlying40 inf27 rfl rfl rfl (by omega) (by omega) rfl) ?_
                        first | refine q_gn rfl rfl rfl rfl ?_ | refine q_g _ rfl rfl rfl rfl (v_ldW rfl Try.underlying27 rfl inf27 rfl rfl) ?_ | refine q_g _ rfl rfl rfl rfl (v_lfW rfl Try.underlying27 rfl inf27 rfl rfl) ?_ | refine q_g _ rfl rfl rfl rfl (v_lfN rfl Try.underlying27 rfl inf27 rfl rfl rfl) ?_ | refine q_g _ rfl rfl rfl rfl (v_ldN rfl Try.underlying27 rfl inf27 rfl rfl rfl) ?_ | refine q_g _ rfl rfl rfl rfl (v_loadEN rfl Try.underlying27 rfl inf27 rfl (by omega) rfl rfl rfl) ?_
                        first | refine q_gn rfl rfl rfl rfl ?_ | refine q_g _ rfl rfl rfl rfl (OpQ.fn (kept_v F ro ho rc hc (k : Int) _ _ _ (by omega) (by omega) hb (whole_daysI (by omega))) rfl rfl SubRC.sub) ?_
                        first | refine q_gn rfl rfl rfl rfl ?_ | refine q_g _ rfl rfl rfl rfl (v_neq rfl rfl rfl) ?_
                        first | refine q_q _ rfl rfl rfl (v_pick_t rfl rfl rfl) ?_ | refine q_q _ rfl rfl rfl (v_pick_f rfl rfl rfl) ?_
                        refine q_q _ rfl rfl rfl (v_assign rfl rfl) ?_
                        refine q_nil ?_
                        repeat (first | with_reducible refine r_then ?_ | with_reducible refine r_in_normal ?_ | with_reducible refine r_sc_normal ?_)
                        refine r_region ?_
                        refine o_q _ rfl rfl rfl (v_move rfl rfl) ?_
                        refine o_q _ rfl rfl rfl (v_add rfl rfl rfl (by omega)) ?_
                        refine o_q _ rfl rfl rfl (v_assign rfl rfl) ?_
                        refine o_nil ?_
                        repeat (first | with_reducible refine r_then ?_ | with_reducible refine r_in_normal ?_ | with_reducible refine r_sc_normal ?_)
                        refine r_next (j + 1) ?_ ?_ ?_
                        ·
                          exact r_here (by repeat (first | exact FSub.nil | refine FSub.cons rfl ?_ | refine FSub.cons2 rfl (congrArg Value.bool (by first | exact (decide_eq_true (ex_t (by assumption))).symm | exact decide_eq_decide.2 (ex_n (by assumption)))) ?_)) SelMC.sel SubRC.sub
                        ·
                          omega
                        ·
                          omega
                  ·
                    first
                    | (exfalso; revert hc38; decide)
                    | (exfalso; omega)
                    | skip
                      refine r_exit ?_
                      repeat (first | with_reducible refine r_then_exit ?_ | with_reducible refine r_sc_exit ?_ | with_reducible refine r_in_here ?_ | (with_reducible refine r_in_past (by decide) ?_) | with_reducible refine r_then ?_ | with_reducible refine r_in_normal ?_ | with_reducible refine r_sc_normal ?_)
                      refine r_seq ?_
                      refine r_region ?_
                      refine o_q _ rfl rfl rfl (v_move rfl rfl) ?_
                      refine o_nil ?_
                      repeat (first | with_reducible refine r_then ?_ | with_reducible refine r_in_normal ?_ | with_reducible refine r_sc_normal ?_)
                      first | refine r_condd rfl (fun hc52 => ?_) (fun hc52 => ?_) | refine r_cond rfl (fun hc52 => ?_) (fun hc52 => ?_)
                      ·
                        first
                        | (exfalso; revert hc52; decide)
                        | (exfalso; omega)
                        | skip
                          refine r_region ?_
                          refine o_q _ rfl rfl rfl (v_move rfl rfl) ?_
                          refine o_q _ rfl rfl rfl (v_move rfl rfl) ?_
                          refine o_q _ rfl rfl rfl (OpQ.fn (power_v k (by omega)) rfl rfl SubRC.sub) ?_
                          refine o_q _ rfl rfl rfl (v_add rfl rfl rfl (by omega)) ?_
                          refine o_q _ rfl rfl rfl (v_assign rfl rfl) ?_
                          refine o_nil ?_
                          repeat (first | with_reducible refine r_then ?_ | with_reducible refine r_in_normal ?_ | with_reducible refine r_sc_normal ?_)
                          refine r_region ?_
                          refine o_q _ rfl rfl rfl (v_move rfl rfl) ?_
                          refine o_q _ rfl rfl rfl (v_add rfl rfl rfl (by omega)) ?_
                          refine o_q _ rfl rfl rfl (v_assign rfl rfl) ?_
                          refine o_nil ?_
                          repeat (first | with_reducible refine r_then ?_ | with_reducible refine r_in_normal ?_ | with_reducible refine r_sc_normal ?_)
                          refine r_next (k + 1) ?_ ?_ ?_
                          ·
                            exact r_here (by repeat (first | exact FSub.nil | refine FSub.cons rfl ?_ | refine FSub.cons2 rfl (congrArg (Value.int .i64) (by first | rfl | exact sumP_yes (canRQ_y (j := j) (by omega) (by assumption)) | exact sumP_no (canRQ_n (j := j) (by omega) (by assumption)))) ?_)) SelMC.sel SubRC.sub
                          ·
                            omega
                          ·
                            omega
                      ·
                        first
                        | (exfalso; revert hc52; decide)
                        | (exfalso; omega)
                        | skip
                          refine r_skip ?_
                          repeat (first | with_reducible refine r_then ?_ | with_reducible refine r_in_normal ?_ | with_reducible refine r_sc_normal ?_)
                          refine r_region ?_
                          refine o_q _ rfl rfl rfl (v_move rfl rfl) ?_
                          refine o_q _ rfl rfl rfl (v_add rfl rfl rfl (by omega)) ?_
                          refine o_q _ rfl rfl rfl (v_assign rfl rfl) ?_
                          refine o_nil ?_
                          repeat (first | with_reducible refine r_then ?_ | with_reducible refine r_in_normal ?_ | with_reducible refine r_sc_normal ?_)
                          refine r_next (k + 1) ?_ ?_ ?_
                          ·
                            exact r_here (by repeat (first | exact FSub.nil | refine FSub.cons rfl ?_ | refine FSub.cons2 rfl (congrArg (Value.int .i64) (by first | rfl | exact sumP_yes (canRQ_y (j := j) (by omega) (by assumption)) | exact sumP_no (canRQ_n (j := j) (by omega) (by assumption)))) ?_)) SelMC.sel SubRC.sub
                          ·
                            omega
                          ·
                            omega
            ·
              first
              | (exfalso; revert hc30; decide)
              | (exfalso; omega)
              | skip
                refine r_skip ?_
                repeat (first | with_reducible refine r_then ?_ | with_reducible refine r_in_normal ?_ | with_reducible refine r_sc_normal ?_)
                refine r_seq ?_
                refine r_region ?_
                refine o_q _ rfl rfl rfl (v_assign rfl rfl) ?_
                refine o_nil ?_
                repeat (first | with_reducible refine r_then ?_ | with_reducible refine r_in_normal ?_ | with_reducible refine r_sc_normal ?_)
                refine r_seq ?_
                refine r_seq ?_
                refine r_region ?_
                refine o_q _ rfl rfl rfl (v_assign rfl rfl) ?_
                refine o_nil ?_
                repeat (first | with_reducible refine r_then ?_ | with_reducible refine r_in_normal ?_ | with_reducible refine r_sc_normal ?_)
                refine r_block ?_
                refine r_loop (ι := Nat) (fun j => j ≤ (whole F.rain.length).length) (fun j => [(1, pt b1 0), (6, i64 (sumP (sureRQ F) (k + 1))), (7, i64 (sumP (canRQ F) k)), (8, .slice oa18 (whole F.rain.length).length cp18), (9, i64 k), (10, .bool (decide (∃ i, i < j ∧ ¬ keptR F k ((whole F.rain.length).getD i default) = 0))), (11, i64 j)]) (fun j => bx b1 26 (cellsF F ro rc ho hc) :: M) (fun j => rowD oa18 3 encT (whole F.rain.length) :: ([rowD ro 2 encS F.rain, rowD ho 3 encH F.heaps] ++ Rf)) (fun j => (whole F.rain.length).length - j) 0 ?_ ?_ ?_
                ·
                  exact r_here (by repeat (first | exact FSub.nil | refine FSub.cons rfl ?_ | refine FSub.cons2 rfl (congrArg (Value.int .i64) (by first | exact sumP_yes (decide_eq_true (by assumption)) | exact sumP_no (fun x => absurd (of_decide_eq_true x) (by assumption)))) ?_ | refine FSub.cons2 rfl (congrArg Value.bool (decide_eq_false (fun ⟨_, h, _⟩ => absurd h (by omega))).symm) ?_)) SelMC.sel SubRC.sub
                ·
                  omega
                ·
                  rintro j hI1
                  refine r_seq ?_
                  refine r_seq ?_
                  refine r_region ?_
                  refine o_q _ rfl rfl rfl (v_move rfl rfl) ?_
                  refine o_q _ rfl rfl rfl (v_move rfl rfl) ?_
                  refine o_q _ rfl rfl rfl (v_len rfl rfl Try.underlying40 rfl) ?_
                  refine o_q _ rfl rfl rfl (v_lss rfl rfl rfl) ?_
                  refine o_nil ?_
                  repeat (first | with_reducible refine r_then ?_ | with_reducible refine r_in_normal ?_ | with_reducible refine r_sc_normal ?_)
                  first | refine r_condd rfl (fun hc38 => ?_) (fun hc38 => ?_) | refine r_cond rfl (fun hc38 => ?_) (fun hc38 => ?_)
                  ·
                    first
                    | (exfalso; revert hc38; decide)
                    | (exfalso; omega)
                    | skip
                      refine r_skip ?_
                      repeat (first | with_reducible refine r_then ?_ | with_reducible refine r_in_normal ?_ | with_reducible refine r_sc_normal ?_)
                      refine r_seq ?_
                      refine r_block ?_
                      refine r_region_q mixed (by kernel_rfl) ?_
                      refine q_q _ rfl rfl rfl (v_move rfl rfl) ?_
                      first | refine q_q _ rfl rfl rfl (v_true (v_move rfl rfl) (by omega)) ?_ | refine q_q _ rfl rfl rfl (v_false (v_move rfl rfl) (by omega)) ?_ | refine q_test rfl rfl rfl (v_move rfl rfl) (fun h42 => ?_) (fun h42 => ?_)
                      all_goals
                        first | refine q_gn rfl rfl rfl rfl ?_ | refine q_g _ rfl rfl rfl rfl (v_ldW rfl Try.underlying26 rfl inf26 rfl rfl) ?_ | refine q_g _ rfl rfl rfl rfl (v_lfW rfl Try.underlying26 rfl inf26 rfl rfl) ?_ | refine q_g _ rfl rfl rfl rfl (v_lfN rfl Try.underlying26 rfl inf26 rfl rfl rfl) ?_ | refine q_g _ rfl rfl rfl rfl (v_ldN rfl Try.underlying26 rfl inf26 rfl rfl rfl) ?_ | refine q_g _ rfl rfl rfl rfl (v_loadEN rfl Try.underlying26 rfl inf26 rfl (by omega) rfl rfl rfl) ?_
                        first | refine q_gn rfl rfl rfl rfl ?_ | refine q_g _ rfl rfl rfl rfl (v_move rfl rfl) ?_
                        first | refine q_gn rfl rfl rfl rfl ?_ | refine q_g _ rfl rfl rfl rfl (v_move rfl rfl) ?_
                        first | refine q_gn rfl rfl rfl rfl ?_ | refine q_g _ rfl rfl rfl rfl (v_move rfl rfl) ?_
                        first | refine q_gn rfl rfl rfl rfl ?_ | refine q_g _ rfl rfl rfl rfl (v_indexAddrSn rfl Try.underlying40 inf27 rfl rfl rfl (by omega) rfl) ?_ | refine q_g _ rfl rfl rfl rfl (v_indexAddrS rfl Try.underlying40 inf27 rfl rfl rfl (by omega) (by omega) rfl) ?_
                        first | refine q_gn rfl rfl rfl rfl ?_ | refine q_g _ rfl rfl rfl rfl (v_ldW rfl Try.underlying27 rfl inf27 rfl rfl) ?_ | refine q_g _ rfl rfl rfl rfl (v_lfW rfl Try.underlying27 rfl inf27 rfl rfl) ?_ | refine q_g _ rfl rfl rfl rfl (v_lfN rfl Try.underlying27 rfl inf27 rfl rfl rfl) ?_ | refine q_g _ rfl rfl rfl rfl (v_ldN rfl Try.underlying27 rfl inf27 rfl rfl rfl) ?_ | refine q_g _ rfl rfl rfl rfl (v_loadEN rfl Try.underlying27 rfl inf27 rfl (by omega) rfl rfl rfl) ?_
                        first | refine q_gn rfl rfl rfl rfl ?_ | refine q_g _ rfl rfl rfl rfl (OpQ.fn (kept_v F ro ho rc hc (k : Int) _ _ _ (by omega) (by omega) hb (whole_daysI (by omega))) rfl rfl SubRC.sub) ?_
                        first | refine q_gn rfl rfl rfl rfl ?_ | refine q_g _ rfl rfl rfl rfl (v_neq rfl rfl rfl) ?_
                        first | refine q_q _ rfl rfl rfl (v_pick_t rfl rfl rfl) ?_ | refine q_q _ rfl rfl rfl (v_pick_f rfl rfl rfl) ?_
                        refine q_q _ rfl rfl rfl (v_assign rfl rfl) ?_
                        refine q_nil ?_
                        repeat (first | with_reducible refine r_then ?_ | with_reducible refine r_in_normal ?_ | with_reducible refine r_sc_normal ?_)
                        refine r_region ?_
                        refine o_q _ rfl rfl rfl (v_move rfl rfl) ?_
                        refine o_q _ rfl rfl rfl (v_add rfl rfl rfl (by omega)) ?_
                        refine o_q _ rfl rfl rfl (v_assign rfl rfl) ?_
                        refine o_nil ?_
                        repeat (first | with_reducible refine r_then ?_ | with_reducible refine r_in_normal ?_ | with_reducible refine r_sc_normal ?_)
                        refine r_next (j + 1) ?_ ?_ ?_
                        ·
                          exact r_here (by repeat (first | exact FSub.nil | refine FSub.cons rfl ?_ | refine FSub.cons2 rfl (congrArg Value.bool (by first | exact (decide_eq_true (ex_t (by assumption))).symm | exact decide_eq_decide.2 (ex_n (by assumption)))) ?_)) SelMC.sel SubRC.sub
                        ·
                          omega
                        ·
                          omega
                  ·
                    first
                    | (exfalso; revert hc38; decide)
                    | (exfalso; omega)
                    | skip
                      refine r_exit ?_
                      repeat (first | with_reducible refine r_then_exit ?_ | with_reducible refine r_sc_exit ?_ | with_reducible refine r_in_here ?_ | (with_reducible refine r_in_past (by decide) ?_) | with_reducible refine r_then ?_ | with_reducible refine r_in_normal ?_ | with_reducible refine r_sc_normal ?_)
                      refine r_seq ?_
                      refine r_region ?_
                      refine o_q _ rfl rfl rfl (v_move rfl rfl) ?_
                      refine o_nil ?_
                      repeat (first | with_reducible refine r_then ?_ | with_reducible refine r_in_normal ?_ | with_reducible refine r_sc_normal ?_)
                      first | refine r_condd rfl (fun hc52 => ?_) (fun hc52 => ?_) | refine r_cond rfl (fun hc52 => ?_) (fun hc52 => ?_)
                      ·
                        first
                        | (exfalso; revert hc52; decide)
                        | (exfalso; omega)
                        | skip
                          refine r_region ?_
                          refine o_q _ rfl rfl rfl (v_move rfl rfl) ?_
                          refine o_q _ rfl rfl rfl (v_move rfl rfl) ?_
                          refine o_q _ rfl rfl rfl (OpQ.fn (power_v k (by omega)) rfl rfl SubRC.sub) ?_
                          refine o_q _ rfl rfl rfl (v_add rfl rfl rfl (by omega)) ?_
                          refine o_q _ rfl rfl rfl (v_assign rfl rfl) ?_
                          refine o_nil ?_
                          repeat (first | with_reducible refine r_then ?_ | with_reducible refine r_in_normal ?_ | with_reducible refine r_sc_normal ?_)
                          refine r_region ?_
                          refine o_q _ rfl rfl rfl (v_move rfl rfl) ?_
                          refine o_q _ rfl rfl rfl (v_add rfl rfl rfl (by omega)) ?_
                          refine o_q _ rfl rfl rfl (v_assign rfl rfl) ?_
                          refine o_nil ?_
                          repeat (first | with_reducible refine r_then ?_ | with_reducible refine r_in_normal ?_ | with_reducible refine r_sc_normal ?_)
                          refine r_next (k + 1) ?_ ?_ ?_
                          ·
                            exact r_here (by repeat (first | exact FSub.nil | refine FSub.cons rfl ?_ | refine FSub.cons2 rfl (congrArg (Value.int .i64) (by first | rfl | exact sumP_yes (canRQ_y (j := j) (by omega) (by assumption)) | exact sumP_no (canRQ_n (j := j) (by omega) (by assumption)))) ?_)) SelMC.sel SubRC.sub
                          ·
                            omega
                          ·
                            omega
                      ·
                        first
                        | (exfalso; revert hc52; decide)
                        | (exfalso; omega)
                        | skip
                          refine r_skip ?_
                          repeat (first | with_reducible refine r_then ?_ | with_reducible refine r_in_normal ?_ | with_reducible refine r_sc_normal ?_)
                          refine r_region ?_
                          refine o_q _ rfl rfl rfl (v_move rfl rfl) ?_
                          refine o_q _ rfl rfl rfl (v_add rfl rfl rfl (by omega)) ?_
                          refine o_q _ rfl rfl rfl (v_assign rfl rfl) ?_
                          refine o_nil ?_
                          repeat (first | with_reducible refine r_then ?_ | with_reducible refine r_in_normal ?_ | with_reducible refine r_sc_normal ?_)
                          refine r_next (k + 1) ?_ ?_ ?_
                          ·
                            exact r_here (by repeat (first | exact FSub.nil | refine FSub.cons rfl ?_ | refine FSub.cons2 rfl (congrArg (Value.int .i64) (by first | rfl | exact sumP_yes (canRQ_y (j := j) (by omega) (by assumption)) | exact sumP_no (canRQ_n (j := j) (by omega) (by assumption)))) ?_)) SelMC.sel SubRC.sub
                          ·
                            omega
                          ·
                            omega
        ·
          first
          | (exfalso; revert hc23; decide)
          | (exfalso; omega)
          | skip
            refine r_exit ?_
            repeat (first | with_reducible refine r_then_exit ?_ | with_reducible refine r_sc_exit ?_ | with_reducible refine r_in_here ?_ | (with_reducible refine r_in_past (by decide) ?_) | with_reducible refine r_then ?_ | with_reducible refine r_in_normal ?_ | with_reducible refine r_sc_normal ?_)
            refine r_seq ?_
            refine r_region ?_
            refine o_q _ rfl rfl rfl (v_move rfl rfl) ?_
            refine o_q _ rfl rfl rfl (v_move rfl rfl) ?_
            refine o_q _ rfl rfl rfl (v_assign rfl rfl) ?_
            refine o_q _ rfl rfl rfl (v_assign rfl rfl) ?_
            refine o_q _ rfl rfl rfl (v_assign rfl rfl) ?_
            refine o_nil ?_
            repeat (first | with_reducible refine r_then ?_ | with_reducible refine r_in_normal ?_ | with_reducible refine r_sc_normal ?_)
            refine r_ret ?_
            repeat (first | with_reducible refine r_then_ret ?_ | with_reducible refine r_in_ret ?_ | with_reducible refine r_sc_ret ?_)
            first
            | (rw [clampR_ok hg, show F.heaps.length = k from by omega]; exact r_retv2 (Rd.three rfl (RdI.tmp rfl) (RdI.tmp rfl) (RdI.tmp rfl)) rfl SelMC.sel SubRC.sub)
            | (rw [clampR_bad (by assumption)]; exact r_retv2 (Rd.three rfl (RdI.tmp rfl) (RdI.tmp rfl) (RdI.tmp rfl)) rfl SelMC.sel SubRC.sub)
set_option maxHeartbeats 4000000 in
theorem Sods_v (F : Work) (ro ho : Option Addr) (rc hc : Nat) (hg : GoodF F) (l : List T3) (lo : Option Addr) (lc : Nat) (hl : l.length ≤ 40) (hlh : l.length ≤ F.heaps.length) : FnV Try.prog 43 [valF F ro rc ho hc, .slice lo l.length lc] [rowD lo 3 encT l, rowD ro 2 encS F.rain, rowD ho 3 encH F.heaps] (i64 (sodsR F l)) := by
  refine FnV.intro Try.call43 Try.func43 rfl Try.ntmps43 rfl ?_
  intro W M Rf
  refine r_seq ?_
  refine r_region ?_
  refine o_boxA rfl rfl rfl rfl rfl (fun b2 => ?_)
  refine o_q _ rfl rfl rfl (v_assign rfl rfl) ?_
  refine o_nil ?_
  repeat (first | with_reducible refine r_then ?_ | with_reducible refine r_in_normal ?_ | with_reducible refine r_sc_normal ?_)
  refine r_seq ?_
  refine r_region ?_
  refine o_q _ rfl rfl rfl (v_assign rfl rfl) ?_
  refine o_nil ?_
  repeat (first | with_reducible refine r_then ?_ | with_reducible refine r_in_normal ?_ | with_reducible refine r_sc_normal ?_)
  refine r_seq ?_
  refine r_seq ?_
  refine r_region ?_
  refine o_q _ rfl rfl rfl (v_assign rfl rfl) ?_
  refine o_nil ?_
  repeat (first | with_reducible refine r_then ?_ | with_reducible refine r_in_normal ?_ | with_reducible refine r_sc_normal ?_)
  refine r_block ?_
  refine r_loop (ι := Nat) (fun k => k ≤ l.length) (fun k => [(1, .slice lo l.length lc), (2, pt b2 0), (5, i64 (sodsTo F l k)), (6, i64 k)]) (fun k => bx b2 26 (cellsF F ro rc ho hc) :: M) (fun k => [rowD lo 3 encT l, rowD ro 2 encS F.rain, rowD ho 3 encH F.heaps] ++ Rf) (fun k => l.length - k) 0 ?_ ?_ ?_
  ·
    exact r_here (by repeat (first | exact FSub.nil | refine FSub.cons rfl ?_)) SelMC.sel SubRC.sub
  ·
    omega
  ·
    rintro k hI0
    have hsb := sodsTo_bd hg l k (by omega)
    have hsk : k < F.heaps.length → _ := fun h => (hg.2.2.2.2.2 k h).2
    have hl3 := hg.2.2.1
    refine r_seq ?_
    refine r_seq ?_
    refine r_region ?_
    refine o_q _ rfl rfl rfl (v_move rfl rfl) ?_
    refine o_q _ rfl rfl rfl (v_move rfl rfl) ?_
    refine o_q _ rfl rfl rfl (v_len rfl rfl Try.underlying40 rfl) ?_
    refine o_q _ rfl rfl rfl (v_lss rfl rfl rfl) ?_
    refine o_nil ?_
    repeat (first | with_reducible refine r_then ?_ | with_reducible refine r_in_normal ?_ | with_reducible refine r_sc_normal ?_)
    first | refine r_condd rfl (fun hc10 => ?_) (fun hc10 => ?_) | refine r_cond rfl (fun hc10 => ?_) (fun hc10 => ?_)
    ·
      first
      | (exfalso; revert hc10; decide)
      | (exfalso; omega)
      | skip
        refine r_skip ?_
        repeat (first | with_reducible refine r_then ?_ | with_reducible refine r_in_normal ?_ | with_reducible refine r_sc_normal ?_)
        refine r_seq ?_
        refine r_block ?_
        refine r_seq ?_
        refine r_region ?_
        refine o_q _ rfl rfl rfl (v_move rfl rfl) ?_
        refine o_q _ rfl rfl rfl (v_move rfl rfl) ?_
        first | refine o_q _ rfl rfl rfl (v_indexAddrSn rfl Try.underlying40 inf27 rfl rfl rfl (by omega) rfl) ?_ | refine o_q _ rfl rfl rfl (v_indexAddrS rfl Try.underlying40 inf27 rfl rfl rfl (by omega) (by omega) rfl) ?_
        first | refine o_q _ rfl rfl rfl (v_ldW rfl Try.underlying27 rfl inf27 rfl rfl) ?_ | refine o_q _ rfl rfl rfl (v_lfW rfl Try.underlying27 rfl inf27 rfl rfl) ?_ | refine o_q _ rfl rfl rfl (v_lfN rfl Try.underlying27 rfl inf27 rfl rfl rfl) ?_ | refine o_q _ rfl rfl rfl (v_ldN rfl Try.underlying27 rfl inf27 rfl rfl rfl) ?_ | refine o_q _ rfl rfl rfl (v_loadEN rfl Try.underlying27 rfl inf27 rfl (by omega) rfl rfl rfl) ?_
        refine o_q _ rfl rfl rfl (OpQ.fn (Whole_v _ _ _) rfl rfl SubRC.sub) ?_
        refine o_nil ?_
        repeat (first | with_reducible refine r_then ?_ | with_reducible refine r_in_normal ?_ | with_reducible refine r_sc_normal ?_)
        first | refine r_condd rfl (fun hc17 => ?_) (fun hc17 => ?_) | refine r_cond rfl (fun hc17 => ?_) (fun hc17 => ?_)
        ·
          first
          | (exfalso; revert hc17; decide)
          | (exfalso; omega)
          | skip
            refine r_region ?_
            refine o_q _ rfl rfl rfl (v_move rfl rfl) ?_
            first | refine o_q _ rfl rfl rfl (v_fieldAddr rfl Try.underlying26 inf24 rfl rfl rfl rfl) ?_ | refine o_q _ rfl rfl rfl (v_fieldAddrE rfl Try.underlying26 inf24 rfl rfl rfl rfl) ?_
            first | refine o_q _ rfl rfl rfl (v_ld1 rfl Try.underlying24 rfl rfl rfl) ?_ | refine o_q _ rfl rfl rfl (v_lf1 rfl Try.underlying24 rfl rfl rfl) ?_ | refine o_q _ rfl rfl rfl (v_loadE1 rfl Try.underlying24 rfl rfl (by omega) rfl rfl) ?_
            refine o_q _ rfl rfl rfl (v_move rfl rfl) ?_
            first | refine o_q _ rfl rfl rfl (v_indexAddrSn rfl Try.underlying24 inf73 rfl rfl rfl (by omega) rfl) ?_ | refine o_q _ rfl rfl rfl (v_indexAddrS rfl Try.underlying24 inf73 rfl rfl rfl (by omega) (by omega) rfl) ?_
            first | refine o_q _ rfl rfl rfl (v_fieldAddr rfl Try.underlying73 inf3 rfl rfl rfl rfl) ?_ | refine o_q _ rfl rfl rfl (v_fieldAddrE rfl Try.underlying73 inf3 rfl rfl rfl rfl) ?_
            first | refine o_q _ rfl rfl rfl (v_ld1 rfl Try.underlying3 rfl rfl rfl) ?_ | refine o_q _ rfl rfl rfl (v_lf1 rfl Try.underlying3 rfl rfl rfl) ?_ | refine o_q _ rfl rfl rfl (v_loadE1 rfl Try.underlying3 rfl rfl (by omega) rfl rfl) ?_
            refine o_q _ rfl rfl rfl (v_add rfl rfl rfl (by have := hsk (by omega); omega)) ?_
            refine o_q _ rfl rfl rfl (v_assign rfl rfl) ?_
            refine o_nil ?_
            repeat (first | with_reducible refine r_then ?_ | with_reducible refine r_in_normal ?_ | with_reducible refine r_sc_normal ?_)
            refine r_region ?_
            refine o_q _ rfl rfl rfl (v_move rfl rfl) ?_
            refine o_q _ rfl rfl rfl (v_add rfl rfl rfl (by omega)) ?_
            refine o_q _ rfl rfl rfl (v_assign rfl rfl) ?_
            refine o_nil ?_
            repeat (first | with_reducible refine r_then ?_ | with_reducible refine r_in_normal ?_ | with_reducible refine r_sc_normal ?_)
            refine r_next (k + 1) ?_ ?_ ?_
            ·
              exact r_here (by repeat (first | exact FSub.nil | refine FSub.cons rfl ?_ | refine FSub.cons2 rfl (congrArg (Value.int .i64) (by first | rfl | exact sodsTo_yes (by assumption) | exact sodsTo_no (by assumption))) ?_)) SelMC.sel SubRC.sub
            ·
              omega
            ·
              omega
        ·
          first
          | (exfalso; revert hc17; decide)
          | (exfalso; omega)
          | skip
            refine r_skip ?_
            repeat (first | with_reducible refine r_then ?_ | with_reducible refine r_in_normal ?_ | with_reducible refine r_sc_normal ?_)
            refine r_region ?_
            refine o_q _ rfl rfl rfl (v_move rfl rfl) ?_
            refine o_q _ rfl rfl rfl (v_add rfl rfl rfl (by omega)) ?_
            refine o_q _ rfl rfl rfl (v_assign rfl rfl) ?_
            refine o_nil ?_
            repeat (first | with_reducible refine r_then ?_ | with_reducible refine r_in_normal ?_ | with_reducible refine r_sc_normal ?_)
            refine r_next (k + 1) ?_ ?_ ?_
            ·
              exact r_here (by repeat (first | exact FSub.nil | refine FSub.cons rfl ?_ | refine FSub.cons2 rfl (congrArg (Value.int .i64) (by first | rfl | exact sodsTo_yes (by assumption) | exact sodsTo_no (by assumption))) ?_)) SelMC.sel SubRC.sub
            ·
              omega
            ·
              omega
    ·
      first
      | (exfalso; revert hc10; decide)
      | (exfalso; omega)
      | skip
        refine r_exit ?_
        repeat (first | with_reducible refine r_then_exit ?_ | with_reducible refine r_sc_exit ?_ | with_reducible refine r_in_here ?_ | (with_reducible refine r_in_past (by decide) ?_) | with_reducible refine r_then ?_ | with_reducible refine r_in_normal ?_ | with_reducible refine r_sc_normal ?_)
        refine r_seq ?_
        refine r_region ?_
        refine o_q _ rfl rfl rfl (v_move rfl rfl) ?_
        refine o_q _ rfl rfl rfl (v_assign rfl rfl) ?_
        refine o_nil ?_
        repeat (first | with_reducible refine r_then ?_ | with_reducible refine r_in_normal ?_ | with_reducible refine r_sc_normal ?_)
        refine r_ret ?_
        repeat (first | with_reducible refine r_then_ret ?_ | with_reducible refine r_in_ret ?_ | with_reducible refine r_sc_ret ?_)
        have hk : k = l.length := by omega
        subst hk
        exact r_retv2 (Rd.tmp rfl rfl) rfl SelMC.sel SubRC.sub
set_option maxHeartbeats 4000000 in
theorem Plans_v (xs ys : List T3) (oa ob : Option Addr) (ca cb : Nat) (hx : xs.length ≤ 1000) (hy : ys.length ≤ 1000) : FnV Try.prog 30 [.slice oa xs.length ca, .slice ob ys.length cb] [rowD oa 3 encT xs, rowD ob 3 encT ys] (.bool (decide (xs = ys))) := by
  refine FnV.intro Try.call30 Try.func30 rfl Try.ntmps30 rfl ?_
  intro W M Rf
  refine r_seq ?_
  refine r_region ?_
  refine o_q _ rfl rfl rfl (v_assign rfl rfl) ?_
  refine o_nil ?_
  repeat (first | with_reducible refine r_then ?_ | with_reducible refine r_in_normal ?_ | with_reducible refine r_sc_normal ?_)
  refine r_seq ?_
  refine r_seq ?_
  refine r_region ?_
  refine o_q _ rfl rfl rfl (v_move rfl rfl) ?_
  refine o_q _ rfl rfl rfl (v_len rfl rfl Try.underlying40 rfl) ?_
  refine o_q _ rfl rfl rfl (v_move rfl rfl) ?_
  refine o_q _ rfl rfl rfl (v_len rfl rfl Try.underlying40 rfl) ?_
  refine o_q _ rfl rfl rfl (v_neq rfl rfl rfl) ?_
  refine o_nil ?_
  repeat (first | with_reducible refine r_then ?_ | with_reducible refine r_in_normal ?_ | with_reducible refine r_sc_normal ?_)
  first | refine r_condd rfl (fun hc10 => ?_) (fun hc10 => ?_) | refine r_cond rfl (fun hc10 => ?_) (fun hc10 => ?_)
  ·
    first
    | (exfalso; revert hc10; decide)
    | (exfalso; omega)
    | skip
      refine r_seq ?_
      refine r_region ?_
      refine o_q _ rfl rfl rfl (v_assign rfl rfl) ?_
      refine o_nil ?_
      repeat (first | with_reducible refine r_then ?_ | with_reducible refine r_in_normal ?_ | with_reducible refine r_sc_normal ?_)
      refine r_ret ?_
      repeat (first | with_reducible refine r_then_ret ?_ | with_reducible refine r_in_ret ?_ | with_reducible refine r_sc_ret ?_)
      first
      | exact r_retv2 (Rd.tmp rfl rfl) (congrArg Value.bool (decide_eq_false (fun h => by subst h; contradiction)).symm) SelMC.sel SubRC.sub
      | exact r_retv2 (Rd.tmp rfl rfl) (congrArg Value.bool (decide_eq_false (fun h => by subst h; exact absurd rfl (by assumption))).symm) SelMC.sel SubRC.sub
      | exact r_retv2 (Rd.tmp rfl rfl) (congrArg Value.bool (decide_eq_true (list_eq (by omega) (fun j hj => hI0.2 j (by omega)))).symm) SelMC.sel SubRC.sub
  ·
    first
    | (exfalso; revert hc10; decide)
    | (exfalso; omega)
    | skip
      refine r_skip ?_
      repeat (first | with_reducible refine r_then ?_ | with_reducible refine r_in_normal ?_ | with_reducible refine r_sc_normal ?_)
      refine r_seq ?_
      refine r_seq ?_
      refine r_region ?_
      refine o_q _ rfl rfl rfl (v_assign rfl rfl) ?_
      refine o_nil ?_
      repeat (first | with_reducible refine r_then ?_ | with_reducible refine r_in_normal ?_ | with_reducible refine r_sc_normal ?_)
      refine r_block ?_
      refine r_loop (ι := Nat) (fun k => k ≤ xs.length ∧ ∀ j, j < k → xs.getD j default = ys.getD j default) (fun k => [(0, .slice oa xs.length ca), (1, .slice ob ys.length cb), (5, i64 k)]) (fun k => M) (fun k => [rowD oa 3 encT xs, rowD ob 3 encT ys] ++ Rf) (fun k => xs.length - k) 0 ?_ ?_ ?_
      ·
        exact r_here (by repeat (first | exact FSub.nil | refine FSub.cons rfl ?_)) SelMC.sel SubRC.sub
      ·
        exact ⟨Nat.zero_le _, fun h hh => absurd hh (by omega)⟩
      ·
        rintro k hI0
        refine r_seq ?_
        refine r_seq ?_
        refine r_region ?_
        refine o_q _ rfl rfl rfl (v_move rfl rfl) ?_
        refine o_q _ rfl rfl rfl (v_move rfl rfl) ?_
        refine o_q _ rfl rfl rfl (v_len rfl rfl Try.underlying40 rfl) ?_
        refine o_q _ rfl rfl rfl (v_lss rfl rfl rfl) ?_
        refine o_nil ?_
        repeat (first | with_reducible refine r_then ?_ | with_reducible refine r_in_normal ?_ | with_reducible refine r_sc_normal ?_)
        first | refine r_condd rfl (fun hc14 => ?_) (fun hc14 => ?_) | refine r_cond rfl (fun hc14 => ?_) (fun hc14 => ?_)
        ·
          first
          | (exfalso; revert hc14; decide)
          | (exfalso; omega)
          | skip
            refine r_skip ?_
            repeat (first | with_reducible refine r_then ?_ | with_reducible refine r_in_normal ?_ | with_reducible refine r_sc_normal ?_)
            refine r_seq ?_
            refine r_block ?_
            refine r_seq ?_
            refine r_region_q mixed (by kernel_rfl) ?_
            refine q_q _ rfl rfl rfl (v_move rfl rfl) ?_
            refine q_q _ rfl rfl rfl (v_move rfl rfl) ?_
            first | refine q_q _ rfl rfl rfl (v_indexAddrSn rfl Try.underlying40 inf27 rfl rfl rfl (by omega) rfl) ?_ | refine q_q _ rfl rfl rfl (v_indexAddrS rfl Try.underlying40 inf27 rfl rfl rfl (by omega) (by omega) rfl) ?_
            first | refine q_q _ rfl rfl rfl (v_ldW rfl Try.underlying27 rfl inf27 rfl rfl) ?_ | refine q_q _ rfl rfl rfl (v_lfW rfl Try.underlying27 rfl inf27 rfl rfl) ?_ | refine q_q _ rfl rfl rfl (v_lfN rfl Try.underlying27 rfl inf27 rfl rfl rfl) ?_ | refine q_q _ rfl rfl rfl (v_ldN rfl Try.underlying27 rfl inf27 rfl rfl rfl) ?_ | refine q_q _ rfl rfl rfl (v_loadEN rfl Try.underlying27 rfl inf27 rfl (by omega) rfl rfl rfl) ?_
            refine q_q _ rfl rfl rfl (v_move rfl rfl) ?_
            refine q_q _ rfl rfl rfl (v_move rfl rfl) ?_
            first | refine q_q _ rfl rfl rfl (v_indexAddrSn rfl Try.underlying40 inf27 rfl rfl rfl (by omega) rfl) ?_ | refine q_q _ rfl rfl rfl (v_indexAddrS rfl Try.underlying40 inf27 rfl rfl rfl (by omega) (by omega) rfl) ?_
            first | refine q_q _ rfl rfl rfl (v_ldW rfl Try.underlying27 rfl inf27 rfl rfl) ?_ | refine q_q _ rfl rfl rfl (v_lfW rfl Try.underlying27 rfl inf27 rfl rfl) ?_ | refine q_q _ rfl rfl rfl (v_lfN rfl Try.underlying27 rfl inf27 rfl rfl rfl) ?_ | refine q_q _ rfl rfl rfl (v_ldN rfl Try.underlying27 rfl inf27 rfl rfl rfl) ?_ | refine q_q _ rfl rfl rfl (v_loadEN rfl Try.underlying27 rfl inf27 rfl (by omega) rfl rfl rfl) ?_
            refine q_q _ rfl rfl rfl (v_neP rfl rfl rfl guard27 (eq27 _ _ _ _ _ _)) ?_
            refine q_nil ?_
            repeat (first | with_reducible refine r_then ?_ | with_reducible refine r_in_normal ?_ | with_reducible refine r_sc_normal ?_)
            first | refine r_condd rfl (fun hc25 => ?_) (fun hc25 => ?_) | refine r_cond rfl (fun hc25 => ?_) (fun hc25 => ?_)
            ·
              first
              | (exfalso; revert hc25; decide)
              | (exfalso; omega)
              | skip
                refine r_seq ?_
                refine r_region ?_
                refine o_q _ rfl rfl rfl (v_assign rfl rfl) ?_
                refine o_nil ?_
                repeat (first | with_reducible refine r_then ?_ | with_reducible refine r_in_normal ?_ | with_reducible refine r_sc_normal ?_)
                refine r_ret ?_
                repeat (first | with_reducible refine r_then_ret ?_ | with_reducible refine r_in_ret ?_ | with_reducible refine r_sc_ret ?_)
                first
                | exact r_retv2 (Rd.tmp rfl rfl) (congrArg Value.bool (decide_eq_false (fun h => by subst h; contradiction)).symm) SelMC.sel SubRC.sub
                | exact r_retv2 (Rd.tmp rfl rfl) (congrArg Value.bool (decide_eq_false (fun h => by subst h; exact absurd rfl (by assumption))).symm) SelMC.sel SubRC.sub
                | exact r_retv2 (Rd.tmp rfl rfl) (congrArg Value.bool (decide_eq_true (list_eq (by omega) (fun j hj => hI0.2 j (by omega)))).symm) SelMC.sel SubRC.sub
            ·
              first
              | (exfalso; revert hc25; decide)
              | (exfalso; omega)
              | skip
                refine r_skip ?_
                repeat (first | with_reducible refine r_then ?_ | with_reducible refine r_in_normal ?_ | with_reducible refine r_sc_normal ?_)
                refine r_region ?_
                refine o_q _ rfl rfl rfl (v_move rfl rfl) ?_
                refine o_q _ rfl rfl rfl (v_add rfl rfl rfl (by omega)) ?_
                refine o_q _ rfl rfl rfl (v_assign rfl rfl) ?_
                refine o_nil ?_
                repeat (first | with_reducible refine r_then ?_ | with_reducible refine r_in_normal ?_ | with_reducible refine r_sc_normal ?_)
                refine r_next (k + 1) ?_ ?_ ?_
                ·
                  exact r_here (by repeat (first | exact FSub.nil | refine FSub.cons rfl ?_)) SelMC.sel SubRC.sub
                ·
                  exact ⟨by omega, all_step hI0.2 (Classical.not_not.1 (by assumption))⟩
                ·
                  omega
        ·
          first
          | (exfalso; revert hc14; decide)
          | (exfalso; omega)
          | skip
            refine r_exit ?_
            repeat (first | with_reducible refine r_then_exit ?_ | with_reducible refine r_sc_exit ?_ | with_reducible refine r_in_here ?_ | (with_reducible refine r_in_past (by decide) ?_) | with_reducible refine r_then ?_ | with_reducible refine r_in_normal ?_ | with_reducible refine r_sc_normal ?_)
            refine r_seq ?_
            refine r_region ?_
            refine o_q _ rfl rfl rfl (v_assign rfl rfl) ?_
            refine o_nil ?_
            repeat (first | with_reducible refine r_then ?_ | with_reducible refine r_in_normal ?_ | with_reducible refine r_sc_normal ?_)
            refine r_ret ?_
            repeat (first | with_reducible refine r_then_ret ?_ | with_reducible refine r_in_ret ?_ | with_reducible refine r_sc_ret ?_)
            first
            | exact r_retv2 (Rd.tmp rfl rfl) (congrArg Value.bool (decide_eq_false (fun h => by subst h; contradiction)).symm) SelMC.sel SubRC.sub
            | exact r_retv2 (Rd.tmp rfl rfl) (congrArg Value.bool (decide_eq_false (fun h => by subst h; exact absurd rfl (by assumption))).symm) SelMC.sel SubRC.sub
            | exact r_retv2 (Rd.tmp rfl rfl) (congrArg Value.bool (decide_eq_true (list_eq (by omega) (fun j hj => hI0.2 j (by omega)))).symm) SelMC.sel SubRC.sub
end Go.Proofs.Ytienjlmnakbfmaa

namespace Go.G
variable {P : Program} {W : World} {n : Nat} {D : List Deferred} {L : Tm} {M : List Res} {R : List Fact} {Q : Exit → Act → World → Prop} {o : Oper}
theorem v_max3 {x y z : Operand} {k : IntKind} {a b c : Int} {ts : Array TypeId} (ho : o.op = .call { callee := .builtin .max, args := #[x, y, z], argTypes := ts }) (hx : ev L x = some (.int k a)) (hy : ev L y = some (.int k b)) (hz : ev L z = some (.int k c)) : OpQ P W n L M R o (.int k (max (max a b) c)) :=
  OpQ.of_value fun g w h1 _ => by
    have e1 : max a b = if b > a then b else a := by split <;> omega
    have e2 : max (max a b) c = if c > (if b > a then b else a) then c else (if b > a then b else a) := by rw [← e1]; split <;> omega
    simp [execOp, ho, resolve, invoke, builtin, h1.ev hx, h1.ev hy, h1.ev hz, Builtin.max_, Builtin.max2, e2]
/-- A block is a row of its elements. -/
theorem Imp.rowN {α : Type} {enc : α → List Value} {sz : Nat} {b : Nat} {T : TypeId} {vs : List Value} {X : Act → World → Prop} (xs : List α) (henc : ∀ x, (enc x).length = sz) [hb : HasBoxF b R T vs] (e : vs = xs.flatMap enc) (h : Imp W n D L M (rowD (some ⟨b, 0, none⟩) sz enc xs :: R) X) : Imp W n D L M R X := by
  intro a w h1 h2 h3
  refine h a w h1 h2 (h3.derive fun V hV => .inr ⟨b, 0, vs.toArray, T, (0, 0), rfl, hV _ hb.mem, fun i j hi hj => ?_⟩)
  subst e
  rw [Nat.zero_add, ← flat_at henc xs i j hi hj]
  simp
theorem p_litG {ops : Array Oper} {K : List Spc → Prop} {rest : List Oper} {acc : List Spc} {t e : TypeId} {ps : List (Nat × Operand)} {vs : List Value} {len : Nat} {i : TypeInfo} {z : Value} {cs : List Value} {d j : Nat} {b : Bool} (ho : o.op = .buildSlice t len ps.toArray) (ht : P.underlying t = some (.slice e)) (hi : P.info? e = some i) (hz : i.zero = some z)
    (hbig : Nat.ble (len * i.size) 16777216 = true) (hpos : Nat.beq (len * i.size) 0 = false) (hg : o.guard = some (j, b)) (hsd : said ops L j = some b) (hdst : o.dst = some d) (hd : Nat.blt d n = true)
    (hx : evs L (ps.map (·.2)) = some vs) (hk : ps.map (·.1) = List.range ps.length) (hp : PlaceOK (fun k => some (k * i.size, i.size)) 0 0 vs) [hc : CatC vs cs] (hl : cs.length = len * i.size)
    (hr : ParO P W n M R ops K rest (acc ++ [Spc.lit len e cs]) L) : ParO P W n M R ops K (o :: rest) acc L :=
  ⟨Spc.lit len e cs, by simp [hdst, hd], .inl ⟨.inr ⟨j, b, hg, hsd⟩, OpG_lit ho ht hi hz hbig hpos hx hk hp hl⟩, by simpa [addL, Spc.g] using hr⟩
theorem o_litG {ops : Array Oper} {rest : List Oper} {t e : TypeId} {ps : List (Nat × Operand)} {vs : List Value} {len : Nat} {i : TypeInfo} {z : Value} {cs : List Value} {d j : Nat} {b : Bool} (ho : o.op = .buildSlice t len ps.toArray) (ht : P.underlying t = some (.slice e)) (hi : P.info? e = some i) (hz : i.zero = some z)
    (hbig : Nat.ble (len * i.size) 16777216 = true) (hpos : Nat.beq (len * i.size) 0 = false) (hg : o.guard = some (j, b)) (hsd : said ops L j = some b) (hdst : o.dst = some d) (hd : Nat.blt d n = true)
    (hx : evs L (ps.map (·.2)) = some vs) (hk : ps.map (·.1) = List.range ps.length) (hp : PlaceOK (fun k => some (k * i.size, i.size)) 0 0 vs) [hc : CatC vs cs] (hl : cs.length = len * i.size)
    (h : ∀ b, Imp W n D ((d, .slice (some ⟨b, 0, none⟩) len len) :: L) (bx b e cs :: M) R (wpList P ops Q rest)) : Imp W n D L M R (wpList P ops Q (o :: rest)) := by
  intro a w g1 g2 g3
  refine wpList_step fun K hK => ?_
  rw [if_pos (by simp [Region.wanted, hg, said_sound g1 hsd])]
  unfold Oper.wp
  have hu := parts_eq g1 hx hk
  have hb1 : ¬ (2 ^ 24 < len * i.size) := by
    have : len * i.size ≤ 16777216 := by simpa using hbig
    omega
  have hb2 : ¬ (len * i.size = 0) := fun e => by rw [e] at hpos; cases hpos
  have hf := fill_all (cells := (Array.range (len * i.size)).map (fun k => z.cells[k % z.cells.size]!)) hp hc.cat (by simpa using hl)
  have hrun : (execOp a.eval o).run P w = .ok (.value (.slice (some ⟨w.heap.size, 0, none⟩) len len)) (w.alloc (.cells cs.toArray e)) := by
    simp only [execOp, ho, Instr.buildSlice, Sem.run_bind, run_underlying ht, run_sizeOf' hi, Result.andThen_ok, gt_iff_lt, hb1, hb2, if_false, run_zeroValue' hi hz, Sem.run_pure, List.map_toArray, hu, hf]
    simp [newRow, newObj, Sem.run]
  rw [hrun, Oper.upon_value, hdst]
  exact hK _ _ (h w.heap.size _ _ (g1.put (by simpa using hd) _) (by rw [put_defers]; exact g2) (g3.push _))
theorem o_fnown {α : Type} {ops : Array Oper} {rest : List Oper} {k : FuncId} {args : List Value} {R0 : List Fact} {xs : List Operand} {ts : Array TypeId} {d : Nat} {g : Value → Value} {T : TypeId} {sz : Nat} {enc : α → List Value} {ys : List α}
    (h : FnS P k args [] R0 (fun e M' R' => ∃ v, e = .returned (g v) ∧ M' = [ownL v T sz enc ys] ∧ R' = [])) (ho : o.op = .call { callee := .value (.func k), args := xs.toArray, argTypes := ts })
    (hx : evs L xs = some args) (hg : o.guard = none) (hdst : o.dst = some d) (hd : Nat.blt d n = true) (hs : SubR R R0)
    (hret : ∀ v, Imp W n D ((d, g v) :: L) (ownL v T sz enc ys :: M) R (wpList P ops Q rest)) : Imp W n D L M R (wpList P ops Q (o :: rest)) := by
  refine o_call h ho [] [] rfl hx (by simp) hg (by simp [okD, hdst, hd]) SelM.refl hs ?_ ?_ ?_
  · rintro v M' R' ⟨u, he, rfl, rfl⟩
    cases he
    rw [hdst]
    exact hret u
  · rintro c M' R' ⟨u, he, _⟩; cases he
  · rintro M' R' ⟨u, he, _⟩; cases he
/-- The addresses in a struct's slices. -/
def adrAt : Value → Nat → Option Addr
  | .agg cs, i => adr (cs.getD i undef)
  | _, _ => none
end Go.G

namespace Foot4
open Go Go.G
/-- As many steps are done, day by day. -/
theorem wet_same {F : Work} {heap n : Nat} {p q : T3} (hadv : ∀ d k : Nat, d < n → k ≤ 3 → (∀ j, j < k → 0 ≤ p.at j ∧ p.at j ≤ d) → ((adv p d k : Nat) : Int) = Done q d) :
    wetF selW F heap p n = worstTo F heap q n ∧ wetF selD F heap p n = bestTo F heap q n := by
  have key : ∀ (sel : Int → Int → Int) (x : Nat → Int) , (x 0 = sel (F.heaps.getD heap default).lo (F.heaps.getD heap default).hi) →
      (∀ d, x (d + 1) = if Done q d < 3 then step (x d) (sel (F.rain.getD d default).lo (F.rain.getD d default).hi) (F.dr.at (Done q d).toNat) else x d) →
      ∀ m, m ≤ n → (wetS sel F heap p m).1 = x m ∧ (wetS sel F heap p m).2 ≤ 3 ∧ (∀ j, j < (wetS sel F heap p m).2 → 0 ≤ p.at j ∧ p.at j ≤ (m : Int) - 1) := by
    intro sel x h0 hs m
    induction m with
    | zero =>
      intro _
      exact ⟨h0.symm, Nat.zero_le _, fun j hj => absurd hj (Nat.not_lt_zero _)⟩
    | succ m ih =>
      intro hm
      obtain ⟨i1, i2, i3⟩ := ih (by omega)
      have ha := hadv m (wetS sel F heap p m).2 (by omega) i2 (fun j hj => by have := i3 j hj; omega)
      have hd : ∀ f k, (∀ j, j < k → 0 ≤ p.at j ∧ p.at j ≤ (m : Int)) → ∀ j, j < advF p m f k → 0 ≤ p.at j ∧ p.at j ≤ (m : Int) := by
        intro f
        induction f with
        | zero => intro k h j hj; exact h j hj
        | succ f ihf =>
          intro k h j hj
          simp only [advF] at hj
          split at hj
          · rename_i hc
            exact ihf (k + 1) (fun j hj => by
              by_cases e : j = k
              · subst e; exact hc
              · exact h j (by omega)) j hj
          · exact h j hj
      have hdone : ∀ j, j < adv p m (wetS sel F heap p m).2 → 0 ≤ p.at j ∧ p.at j ≤ (m : Int) := hd _ _ (fun j hj => by have := i3 j hj; omega)
      have hle := adv_le (p := p) (d := (m : Int)) i2
      simp only [wetS, hs, ← ha]
      by_cases h3 : adv p m (wetS sel F heap p m).2 = 3
      · rw [if_pos h3, if_neg (by omega)]
        refine ⟨i1, Nat.le_refl 3, fun j hj => ?_⟩
        have := hdone j (by rw [h3]; exact hj)
        omega
      · rw [if_neg h3, if_pos (by omega), i1]
        refine ⟨by simp, hle, fun j hj => ?_⟩
        have := hdone j hj
        omega
  exact ⟨(key selW (worstTo F heap q) rfl (fun d => rfl) n (Nat.le_refl n)).1, (key selD (bestTo F heap q) rfl (fun d => rfl) n (Nat.le_refl n)).1⟩
theorem Done_eq {q : T3} {d : Int} : Done q d = (if 0 ≤ q.a ∧ q.a ≤ d then 1 else 0) + (if 0 ≤ q.b ∧ q.b ≤ d then 1 else 0) + (if 0 ≤ q.c ∧ q.c ≤ d then 1 else 0) := by
  simp [Done, doneTo, T3.at]
theorem adv_eq {p : T3} {d : Int} {k : Nat} (hk : k ≤ 3) (h : ∀ j, j < k → 0 ≤ p.at j ∧ p.at j ≤ d) : adv p d k = adv p d 0 := by
  induction k with
  | zero => rfl
  | succ k ih =>
    rw [← ih (by omega) (fun j hj => h j (by omega))]
    exact (adv_go ⟨by omega, h k (by omega)⟩).symm
theorem adv_0 {p : T3} {d : Int} : adv p d 0 = if 0 ≤ p.a ∧ p.a ≤ d then (if 0 ≤ p.b ∧ p.b ≤ d then (if 0 ≤ p.c ∧ p.c ≤ d then 3 else 2) else 1) else 0 := by
  simp [adv, advF, T3.at]
theorem adv_done {A B C : Prop} [Decidable A] [Decidable B] [Decidable C] (h1 : B → A) (h2 : C → B) : ((if A then if B then if C then 3 else 2 else 1 else 0 : Nat) : Int) = (if A then 1 else 0) + (if B then 1 else 0) + (if C then 1 else 0) := by
  by_cases a : A <;> by_cases b : B <;> by_cases c : C <;> simp_all
theorem ord1 {p : T3} : Ordered p 1 ↔ p.b < 0 ∨ (0 ≤ p.a ∧ p.a < p.b) := by simp [Ordered, T3.at]
theorem ord2 {p : T3} : Ordered p 2 ↔ p.c < 0 ∨ (0 ≤ p.b ∧ p.b < p.c) := by simp [Ordered, T3.at]
theorem plan_wet {F : Work} {heap n m : Nat} {p : T3} (h : IsPlan m p) : wetF selW F heap p n = worstTo F heap p n ∧ wetF selD F heap p n = bestTo F heap p n := by
  refine wet_same fun d k _ hk hj => ?_
  rw [adv_eq hk hj, adv_0, Done_eq]
  have h1 := ord1.1 h.2.2.1
  have h2 := ord2.1 h.2.2.2
  exact adv_done (by omega) (by omega)
theorem wetP_eq (F : Work) (x y : Int) (p : T3) : wetP F x p y = wetR F x p y := by
  unfold wetP wetR
  by_cases h : (0 ≤ x ∧ x ≤ (F.heaps.length : Int) - 1) ∧ IsPlan F.rain.length p ∧ (0 ≤ y ∧ y ≤ (F.rain.length : Int))
  · obtain ⟨h1, h2⟩ := plan_wet (F := F) (heap := x.toNat) (n := y.toNat) h.2.1
    rw [h1, h2]
  · have := chk_false F
    simp only [h, decide_false, if_neg this]
theorem can_ok {F : Work} {heap m : Nat} {p : T3} (h : IsPlan m p) (k : Nat) : (canF selW F heap p k ↔ okStep F worstTo heap p k) ∧ (canF selD F heap p k ↔ okStep F bestTo heap p k) := by
  obtain ⟨h1, h2⟩ := plan_wet (F := F) (heap := heap) (n := (p.at k).toNat) h
  unfold canF okStep
  rw [h1, h2]
  exact ⟨Iff.rfl, Iff.rfl⟩
theorem kept_ok {F : Work} {heap m : Nat} {p : T3} (h : IsPlan m p) : keptP F heap p = keptR F heap p := by
  unfold keptP keptR keptF
  simp only [(can_ok h 0).1, (can_ok h 1).1, (can_ok h 2).1, (can_ok h 0).2, (can_ok h 1).2, (can_ok h 2).2]
theorem canP_eq (F : Work) (x : Int) (p : T3) : canP F x p = canR F x p := by
  unfold canP canR
  by_cases h : (0 ≤ x ∧ x ≤ (F.heaps.length : Int) - 1) ∧ IsPlan F.rain.length p
  · rw [kept_ok h.2]
  · have := chk_false F
    simp only [h, decide_false, if_neg this]
theorem whole_plan {n : Nat} {p : T3} (h : p ∈ whole n) : IsPlan n p := by
  obtain ⟨a, b, c, rfl, h1, h2, h3⟩ := whole_mem h
  refine ⟨fun k hk => ?_, .inr (.inl rfl), ord1.2 (.inr ⟨?_, ?_⟩), ord2.2 (.inr ⟨?_, ?_⟩)⟩
  · have := whole_days h k hk; omega
  · show (0 : Int) ≤ a; omega
  · show (a : Int) < b; omega
  · show (0 : Int) ≤ b; omega
  · show (b : Int) < c; omega
theorem sure_eq (F : Work) (heap : Nat) : sureF selW F heap = sureR F heap := by
  unfold sureF sureR
  refine List.filter_congr fun p hp => ?_
  unfold keptB
  rw [decide_eq_decide]
  rw [← kept_ok (whole_plan hp)]
  unfold keptP
  split
  · simp_all
  · split <;> simp_all
theorem soonP_eq (F : Work) (x : Int) : soonP F x = soonR F x := by
  unfold soonP soonR
  rw [sure_eq]
/-! ### the driest truth is no wetter -/
theorem dry_le {F : Work} (hg : GoodF F) (heap : Nat) (p : T3) (hh : heap < F.heaps.length) : ∀ d, d ≤ F.rain.length → bestTo F heap p d ≤ worstTo F heap p d
  | 0, _ => (hg.2.2.2.2.2 heap hh).1.2.1
  | d + 1, hd => by
    have ih := dry_le hg heap p hh d (by omega)
    have hr := (hg.2.2.2.1 d (by omega)).2.1
    simp only [bestTo, worstTo]
    split
    · unfold step; omega
    · exact ih
theorem kept_down {F : Work} (hg : GoodF F) {heap : Nat} {p : T3} (hh : heap < F.heaps.length) (hp : IsPlan F.rain.length p) (h : keptF selW F heap p) : keptF selD F heap p := by
  have key : ∀ k, k < 3 → canF selW F heap p k → canF selD F heap p k := by
    intro k hk hc
    rw [(can_ok hp k).1] at hc
    rw [(can_ok hp k).2]
    rcases hc with h0 | h0
    · exact .inl h0
    · have := dry_le hg heap p hh (p.at k).toNat (by have := hp.1 k hk; omega)
      exact .inr (by omega)
  exact ⟨key 0 (by omega) h.1, key 1 (by omega) h.2.1, key 2 (by omega) h.2.2⟩
theorem sureD_iff {F : Work} (hg : GoodF F) {h : Nat} (hh : h < F.heaps.length) : sureQ selD F h = canRQ F h := by
  unfold sureQ canRQ
  rw [decide_eq_decide]
  have hk : ∀ p ∈ whole F.rain.length, keptF selD F h p ↔ ¬ keptR F h p = 0 := by
    intro p hp
    have hpl := whole_plan hp
    rw [← kept_ok hpl]
    unfold keptP
    by_cases h1 : keptF selW F h p
    · have := kept_down hg hh hpl h1
      simp [h1, this]
    · by_cases h2 : keptF selD F h p <;> simp [h1, h2]
  constructor
  · intro hl
    have hl' : 0 < (sureF selD F h).length := by omega
    obtain ⟨p, hp⟩ := List.exists_mem_of_length_pos hl'
    unfold sureF at hp
    obtain ⟨hm, hb⟩ := List.mem_filter.1 hp
    obtain ⟨j, hj, e⟩ := List.mem_iff_getElem.1 hm
    refine ⟨j, hj, ?_⟩
    have : (whole F.rain.length).getD j default = p := by simp [List.getD_eq_getElem?_getD, hj, e]
    rw [this]
    exact (hk p hm).1 (of_decide_eq_true hb)
  · rintro ⟨j, hj, hx⟩
    have hm : (whole F.rain.length).getD j default ∈ whole F.rain.length := by
      simp [List.getD_eq_getElem?_getD, hj]
    have : (whole F.rain.length).getD j default ∈ sureF selD F h := List.mem_filter.2 ⟨hm, decide_eq_true ((hk _ hm).2 hx)⟩
    have := List.length_pos_of_mem this
    omega
theorem clampB_congr {q q' : Nat → Bool} : ∀ k, (∀ j, j < k → q j = q' j) → clampB q k = clampB q' k
  | 0, _ => rfl
  | k + 1, h => by simp only [clampB, clampB_congr k (fun j hj => h j (by omega)), h k (by omega)]
theorem clampP_eq (F : Work) : clampP F = clampR F := by
  by_cases hg : GoodF F
  · rw [clampP_ok hg, clampR_ok hg, sumP_eq, sumP_eq, clampB_congr (q := sureQ selW F) (q' := sureRQ F) _ (fun j _ => by unfold sureQ sureRQ; rw [sure_eq]), clampB_congr _ (fun j hj => sureD_iff hg hj)]
  · rw [clampP_bad hg, clampR_bad (chk_ne hg)]
/-! ### what is wrong with plans -/
theorem withTo_at {B : List Int} {p : T3} {d : Int} (hB : B.length = 8) (hd : 0 ≤ d ∧ d ≤ 7) (hp : ∀ k, k < 3 → p.at k ≤ 7) : ∀ k, k ≤ 3 → (withTo B p k).getD d.toNat 0 = B.getD d.toNat 0 + cnt p d k
  | 0, _ => by simp [withTo, cnt]
  | k + 1, hk => by
    have ih := withTo_at hB hd hp k (by omega)
    have hl := withTo_len B p k
    have h7 := hp k (by omega)
    simp only [withTo, cnt]
    by_cases h0 : 0 ≤ p.at k
    · rw [if_pos h0]
      by_cases e : p.at k = d
      · rw [if_pos e, e]
        simp only [List.getD_eq_getElem?_getD]
        rw [List.getElem?_set_self (by omega)]
        simp only [List.getD_eq_getElem?_getD] at ih
        simp only [Option.getD_some]
        rw [ih]; omega
      · rw [if_neg e]
        simp only [List.getD_eq_getElem?_getD]
        rw [List.getElem?_set_ne (by omega)]
        simp only [List.getD_eq_getElem?_getD] at ih
        rw [ih]; omega
    · rw [if_neg h0, if_neg (by omega), ih]; omega
theorem busy_at {l : List T3} {d : Int} (hd : 0 ≤ d ∧ d ≤ 7) : ∀ h, (∀ j, j < h → ∀ k, k < 3 → (l.getD j default).at k ≤ 7) → (busyTo l h).getD d.toNat 0 = befH l d h
  | 0, _ => by
    simp only [busyTo, befH]
    have : d.toNat = 0 ∨ d.toNat = 1 ∨ d.toNat = 2 ∨ d.toNat = 3 ∨ d.toNat = 4 ∨ d.toNat = 5 ∨ d.toNat = 6 ∨ d.toNat = 7 := by omega
    rcases this with e | e | e | e | e | e | e | e <;> rw [e] <;> rfl
  | h + 1, hl => by
    simp only [busyTo, befH, with_]
    rw [withTo_at (busyTo_len l h) hd (hl h (by omega)) 3 (by omega), busy_at hd h (fun j hj => hl j (by omega))]
theorem pre_wet {F : Work} {heap : Nat} {p : T3} {i : Nat} (hi : i < 3) (h0 : 0 ≤ p.at i) (ho : ∀ j, j ≤ i → Ordered p j) : wetF selW F heap p (p.at i).toNat = worstTo F heap (upToP p i) (p.at i).toNat := by
  refine (wet_same fun d k hd hk hj => ?_).1
  rw [adv_eq hk hj, adv_0, Done_eq]
  obtain rfl | rfl | rfl : i = 0 ∨ i = 1 ∨ i = 2 := by omega
  · have e : p.at 0 = p.a := rfl
    rw [e] at hd h0
    have hA : ¬ (0 ≤ p.a ∧ p.a ≤ (d : Int)) := by omega
    show _ = (if 0 ≤ p.a ∧ p.a ≤ (d : Int) then (1 : Int) else 0) + (if (0 : Int) ≤ -1 ∧ (-1 : Int) ≤ d then 1 else 0) + (if (0 : Int) ≤ -1 ∧ (-1 : Int) ≤ d then 1 else 0)
    rw [if_neg hA, if_neg hA, if_neg (by omega)]
    rfl
  · have e : p.at 1 = p.b := rfl
    rw [e] at hd h0
    have h1 := ord1.1 (ho 1 (by omega))
    have hB : ¬ (0 ≤ p.b ∧ p.b ≤ (d : Int)) := by omega
    show _ = (if 0 ≤ p.a ∧ p.a ≤ (d : Int) then (1 : Int) else 0) + (if 0 ≤ p.b ∧ p.b ≤ (d : Int) then 1 else 0) + (if (0 : Int) ≤ -1 ∧ (-1 : Int) ≤ d then 1 else 0)
    rw [if_neg hB, if_neg hB, if_neg (show ¬ ((0 : Int) ≤ -1 ∧ (-1 : Int) ≤ d) by omega)]
    split <;> rfl
  · have e : p.at 2 = p.c := rfl
    rw [e] at hd h0
    have h1 := ord1.1 (ho 1 (by omega))
    have h2 := ord2.1 (ho 2 (by omega))
    show _ = (if 0 ≤ p.a ∧ p.a ≤ (d : Int) then (1 : Int) else 0) + (if 0 ≤ p.b ∧ p.b ≤ (d : Int) then 1 else 0) + (if 0 ≤ p.c ∧ p.c ≤ (d : Int) then 1 else 0)
    exact adv_done (by omega) (by omega)
theorem rule_eq {F : Work} {l : List T3} (hg : GoodF F) (hl : ListOk F l) {h i : Nat} (hh : h < l.length) (hi : i < 3) (hz : ∀ j, j < i → ruleP F l h j = 0) : ruleP F l h i = ruleR F l F.men h i := by
  have hd := hl.2 h hh
  have hn := hg.bnd.len
  unfold ruleP ruleR
  by_cases h0 : (l.getD h default).at i < 0
  · rw [if_pos h0, if_pos h0]
  rw [if_neg h0, if_neg h0]
  by_cases h1' : ¬ Ordered (l.getD h default) i
  · rw [if_pos h1', if_pos h1']
  have h1 := Classical.not_not.1 h1'
  rw [if_neg h1', if_neg h1']
  have hord : ∀ m, m ≤ i → ∀ j, i - m ≤ j → j ≤ i → Ordered (l.getD h default) j ∧ 0 ≤ (l.getD h default).at j := by
    intro m
    induction m with
    | zero => intro _ j hj hji; obtain rfl : j = i := by omega
              exact ⟨h1, by omega⟩
    | succ m ih =>
      intro hm j hj hji
      by_cases e : i - m ≤ j
      · exact ih (by omega) j e hji
      · obtain ⟨o1, o2⟩ := ih (by omega) (j + 1) (by omega) (by omega)
        have hjp : 0 ≤ (l.getD h default).at j := by
          rcases o1 with x | x | x
          · omega
          · omega
          · exact x.1
        refine ⟨?_, hjp⟩
        have hr := hz j (by omega)
        unfold ruleP at hr
        rw [if_neg (by omega)] at hr
        by_cases ho : Ordered (l.getD h default) j
        · exact ho
        · rw [if_pos ho] at hr; exact absurd hr (by decide)
  have hcan : canF selW F h (l.getD h default) i ↔ okStep F worstTo h (upToP (l.getD h default) i) i := by
    unfold canF okStep
    rw [upTo_at hi i hi, if_pos (Nat.le_refl i), pre_wet hi (by omega) (fun j hj => (hord i (Nat.le_refl i) j (by omega) hj).1)]
  have hb := busy_at (l := l) (d := (l.getD h default).at i) ⟨by omega, by have := hd i hi; omega⟩ h (fun j hj k hk => by have := hl.2 j (by omega) k hk; omega)
  simp only [hcan, hb]
theorem First_congr {r s : Nat → Nat → Int} {n : Nat} (h : ∀ h i, h < n → i < 3 → (∀ j, j < i → r h j = 0) → r h i = s h i) {x : Int × Int × Int × Int} (hf : First r n x) : First s n x := by
  have key : ∀ h, h < n → ∀ i, i ≤ 3 → (∀ j, j < i → r h j = 0) → ∀ j, j < i → s h j = 0 := by
    intro hp hh i hi hz j hj
    rw [← h hp j hh (by omega) (fun k hk => hz k (by omega))]
    exact hz j hj
  rcases hf with ⟨hp, i, h1, h2, h3, h4, h5, h6⟩ | ⟨h1, h2⟩
  · have e := h hp i h1 h2 h5
    exact .inl ⟨hp, i, h1, h2, e ▸ h3, fun h' hh' i' hi' => key h' (by omega) 3 (by omega) (h4 h' hh') i' hi', fun i' hi' => key hp h1 i (by omega) h5 i' hi', by rw [← e]; exact h6⟩
  · exact .inr ⟨fun hp hh i hi => key hp hh 3 (by omega) (h1 hp hh) i hi, h2⟩
theorem BrokeP_R {F : Work} {l : List T3} {x : Int × Int × Int × Int} (h : BrokeP F l x) : BrokeR F l x := by
  unfold BrokeP at h
  unfold BrokeR
  split
  · rename_i hc
    rw [if_pos hc] at h
    have hc' : ¬ chk F (decide (ListOk F l)) ≠ 0 := fun x => x hc
    exact First_congr (fun hp i hh hi hz => rule_eq (chk_zero hc').1 (ListOk_of hc') hh hi hz) h
  · rename_i hc
    rw [if_neg hc] at h
    exact h
theorem First_uniq {r : Nat → Nat → Int} {n : Nat} {x y : Int × Int × Int × Int} (hx : First r n x) (hy : First r n y) : x = y := by
  rcases hx with ⟨h, i, h1, h2, h3, h4, h5, h6⟩ | ⟨h1, h2⟩
  · rcases hy with ⟨g, j, g1, g2, g3, g4, g5, g6⟩ | ⟨g1, g2⟩
    · have eh : h = g := by
        rcases Nat.lt_trichotomy h g with e | e | e
        · exact absurd (g4 h e i h2) h3
        · exact e
        · exact absurd (h4 g e j g2) g3
      subst eh
      have ei : i = j := by
        rcases Nat.lt_trichotomy i j with e | e | e
        · exact absurd (g5 i e) h3
        · exact e
        · exact absurd (h5 j e) g3
      subst ei
      rw [h6, g6]
    · exact absurd (g1 h h1 i h2) h3
  · rcases hy with ⟨g, j, g1, g2, g3, g4, g5, g6⟩ | ⟨g1, g2⟩
    · exact absurd (h1 g g1 j g2) g3
    · rw [h2, g2]
theorem BrokeR_uniq {F : Work} {l : List T3} {x y : Int × Int × Int × Int} (hx : BrokeR F l x) (hy : BrokeR F l y) : x = y := by
  unfold BrokeR at hx hy
  split at hx
  · rename_i hc
    rw [if_pos hc] at hy
    exact First_uniq hx hy
  · rename_i hc
    rw [if_neg hc] at hy
    rw [hx, hy]
end Foot4

namespace Foot4
open Go Go.G
@[reducible] def sampleF (men : Int) : Work := ⟨[⟨0, 2⟩, ⟨1, 3⟩, ⟨0, 0⟩, ⟨0, 4⟩, ⟨0, 1⟩, ⟨0, 2⟩], men, ⟨12, 8, 4⟩, ⟨2, 3, 4⟩, [⟨8, 11, 100⟩, ⟨10, 10, 60⟩, ⟨30, 31, 40⟩]⟩
theorem good1 : GoodF (sampleF 1) := by decide +kernel
theorem good2 : GoodF (sampleF 2) := by decide +kernel
theorem smp_wet : wetP (sampleF 1) 0 ⟨0, 3, 5⟩ 3 = (⟨0, 7⟩, 0) := by decide +kernel
theorem smp_can : canP (sampleF 1) 0 ⟨0, 2, 4⟩ = (1, 0) := by decide +kernel
theorem smp_soon : soonP (sampleF 1) 1 = (⟨0, 3, 5⟩, 0) := by decide +kernel
theorem smp_soon2 : soonP (sampleF 1) 2 = (default, 4) := by decide +kernel
theorem smp_clamp : clampP (sampleF 1) = (3, 3, 0) := by decide +kernel
theorem smp_broke {x : Int × Int × Int × Int} (h : BrokeP (sampleF 1) [⟨0, 3, 5⟩, ⟨0, 3, 5⟩, ⟨-1, -1, -1⟩] x) : x = (1, 0, 3, 0) := by
  refine BrokeR_uniq (BrokeP_R h) ?_
  have hl : ListOk (sampleF 1) [⟨0, 3, 5⟩, ⟨0, 3, 5⟩, ⟨-1, -1, -1⟩] := by decide +kernel
  have hr : ruleR (sampleF 1) [⟨0, 3, 5⟩, ⟨0, 3, 5⟩, ⟨-1, -1, -1⟩] 1 1 0 = 3 := by decide +kernel
  have h0 : ∀ h', h' < 1 → ∀ i', i' < 3 → ruleR (sampleF 1) [⟨0, 3, 5⟩, ⟨0, 3, 5⟩, ⟨-1, -1, -1⟩] 1 h' i' = 0 := by decide +kernel
  have := BrokeR_at (h := 1) (i := 0) good1 hl (by show ruleR _ _ 1 1 0 ≠ 0; rw [hr]; decide) (by simp) (by omega) h0 (fun i hi => absurd hi (by omega))
  have e : ruleR (sampleF 1) [⟨0, 3, 5⟩, ⟨0, 3, 5⟩, ⟨-1, -1, -1⟩] (sampleF 1).men 1 0 = 3 := hr
  rw [e] at this
  exact this
theorem smp_best : bestP (sampleF 2) = (160, [⟨0, 3, 5⟩, ⟨0, 3, 5⟩, ⟨-1, -1, -1⟩], 0) := by decide +kernel
theorem smp_men : menP (sampleF 1) = (2, 160, 0) := by decide +kernel
end Foot4
