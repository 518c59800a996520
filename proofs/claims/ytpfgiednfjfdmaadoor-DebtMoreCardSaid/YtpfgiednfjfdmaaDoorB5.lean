/- Part 5 of 5 of what the proofs of this seat stand on: a small logic for walks, what the functions come to, and the walks themselves. No condition of its own. -/
import Derived.Test.YtpfgiednfjfdmaaDoorB4
set_option linter.unusedVariables false
set_option linter.unusedSimpArgs false
set_option linter.unusedSectionVars false
namespace Go.Proofs.YtpfgiednfjfdmaaDoor
open Go.G Debt10
set_option maxRecDepth 1000000
attribute [local irreducible] G.ParO G.Fin
theorem guard62 : Tryd.prog.eqGuardType Tryd.prog.depth 62 = false := by kernel_rfl
theorem guard54 : Tryd.prog.eqGuardType Tryd.prog.depth 54 = false := by kernel_rfl
theorem eq54 (a b c d a' b' c' d' : Int) (w : World) : (Op.equal 54 (.agg #[i64 a, i64 b, i64 c, i64 d]) (.agg #[i64 a', i64 b', i64 c', i64 d'])).run Tryd.prog w = .ok (decide ((⟨a, b, ⟨c, d⟩⟩ : Paid) = ⟨a', b', ⟨c', d'⟩⟩)) w := by
  refine eq_to (p := a = a' ∧ b = b' ∧ (c = c' ∧ d = d' ∧ True) ∧ True) (fun w => ?_) (by simp) w
  refine eq_struct Tryd.underlying54 (by kernel_rfl) ?_
  exact fields_cons rfl (pc3 rfl) (pc3 rfl) (eq_int Tryd.underlying3) (fields_cons rfl (pc3 rfl) (pc3 rfl) (eq_int Tryd.underlying3) (fields_cons rfl (run_partA Tryd.underlying29 rfl inf29) (run_partA Tryd.underlying29 rfl inf29) (eqIn29 9997 c d c' d' w) fields_nil))
theorem eq62 (a b c d e a' b' c' d' e' : Int) (w : World) : (Op.equal 62 (.agg #[i64 a, i64 b, i64 c, i64 d, i64 e]) (.agg #[i64 a', i64 b', i64 c', i64 d', i64 e'])).run Tryd.prog w = .ok (decide ((⟨a, b, ⟨c, d⟩, e⟩ : Due) = ⟨a', b', ⟨c', d'⟩, e'⟩)) w := by
  refine eq_to (p := a = a' ∧ b = b' ∧ (c = c' ∧ d = d' ∧ True) ∧ e = e' ∧ True) (fun w => ?_) (by simp) w
  refine eq_struct Tryd.underlying62 (by kernel_rfl) ?_
  exact fields_cons rfl (pc3 rfl) (pc3 rfl) (eq_int Tryd.underlying3) (fields_cons rfl (pc3 rfl) (pc3 rfl) (eq_int Tryd.underlying3) (fields_cons rfl (run_partA Tryd.underlying29 rfl inf29) (run_partA Tryd.underlying29 rfl inf29) (eqIn29 9997 c d c' d' w) (fields_cons rfl (pc3 rfl) (pc3 rfl) (eq_int Tryd.underlying3) fields_nil)))
/-- A book, and where its lists lie. -/
structure DV where
  D : Debt
  uo : Option Addr
  po : Option Addr
  uc : Nat
  pc : Nat
  deriving Inhabited
def encV (x : DV) : List Value := cellsD x.D x.uo x.po x.uc x.pc
theorem encV_len (x : DV) : (encV x).length = 3 := rfl
theorem five {p : Nat → DV → Prop} {x y z t u : DV} {j : Nat} (hj : j < 5) (h0 : p 0 x) (h1 : p 1 y) (h2 : p 2 z) (h3 : p 3 t) (h4 : p 4 u) : p j ([x, y, z, t, u].getD j default) := by
  obtain rfl | rfl | rfl | rfl | rfl : j = 0 ∨ j = 1 ∨ j = 2 ∨ j = 3 ∨ j = 4 := by omega
  · exact h0
  · exact h1
  · exact h2
  · exact h3
  · exact h4
section
variable {E D : Debt} {w : Int} {dn : Nat}
theorem bet_law (h : Bet E D w) (hg : GoodD D) (hE : GoodD E) : ((leftT E w dn).lo ≤ (leftT D w dn).lo ∧ (leftT E w dn).hi ≤ (leftT D w dn).hi) ∧ ((aheadT D w dn).lo ≤ (aheadT E w dn).lo ∧ (aheadT D w dn).hi ≤ (aheadT E w dn).hi) ∧ needT E w dn ≤ needT D w dn :=
  ⟨⟨h.left hg hE 0 (dn + 1), h.left hg hE 1 (dn + 1)⟩, ⟨h.ahead hg 1 (dn + 1), h.ahead hg 0 (dn + 1)⟩, h.need hg hE 1 dn⟩
theorem span_eq {a b : Debt10.Span} (h1 : a.lo = b.lo) (h2 : a.hi = b.hi) : a = b := by
  cases a; cases b; cases h1; cases h2; rfl
theorem same_law (h : Bet E D w ∧ Bet D E w) (hg : GoodD D) (hE : GoodD E) : leftT E w dn = leftT D w dn ∧ aheadT E w dn = aheadT D w dn ∧ needT E w dn = needT D w dn := by
  obtain ⟨⟨a1, a2⟩, ⟨a3, a4⟩, a5⟩ := bet_law (dn := dn) h.1 hg hE
  obtain ⟨⟨b1, b2⟩, ⟨b3, b4⟩, b5⟩ := bet_law (dn := dn) h.2 hE hg
  exact ⟨span_eq (by omega) (by omega), span_eq (by omega) (by omega), by omega⟩
end
/-- What one of the five books has to be, of a book and a person and a day. -/
def LawV (D : Debt) (w dn j : Nat) (v : DV) : Prop := GoodD v.D → (((leftT v.D (w : Int) dn).lo ≤ (leftT D (w : Int) dn).lo ∧ (leftT v.D (w : Int) dn).hi ≤ (leftT D (w : Int) dn).hi) ∧ ((aheadT D (w : Int) dn).lo ≤ (aheadT v.D (w : Int) dn).lo ∧ (aheadT D (w : Int) dn).hi ≤ (aheadT v.D (w : Int) dn).hi) ∧ needT v.D (w : Int) dn ≤ needT D (w : Int) dn) ∧ (3 ≤ j → leftT v.D (w : Int) dn = leftT D (w : Int) dn ∧ aheadT v.D (w : Int) dn = aheadT D (w : Int) dn ∧ needT v.D (w : Int) dn = needT D (w : Int) dn)
theorem lawB {D : Debt} {w dn j : Nat} {v : DV} (hg : GoodD D) (hj : j < 3) (h : GoodD v.D → Bet v.D D (w : Int)) : LawV D w dn j v := fun hE => ⟨bet_law (h hE) hg hE, fun h3 => by omega⟩
theorem lawS {D : Debt} {w dn j : Nat} {v : DV} (hg : GoodD D) (h : Bet v.D D (w : Int) ∧ Bet D v.D (w : Int)) : LawV D w dn j v := fun hE => ⟨bet_law h.1 hg hE, fun _ => same_law h hg hE⟩
def tP (D : Debt) (k : Nat) : List Paid := D.paid.reverse.take k
def uP (D : Debt) (w : Int) (k : Nat) : List Paid := (D.paid.take k).filter (fun x => decide (x.who = w))
def uU (D : Debt) (w : Int) (k : Nat) : List Due := (D.dues.take k).filter (fun x => decide (x.who = w))
theorem tP_s {D : Debt} {k : Nat} (hk : k < D.paid.length) : tP D k ++ [D.paid.getD (D.paid.length - 1 - k) default] = tP D (k + 1) := by
  unfold tP
  rw [take_s (d := default) (by rw [List.length_reverse]; exact hk)]
  congr 2
  rw [List.getD_eq_getElem?_getD, List.getD_eq_getElem?_getD, List.getElem?_reverse hk]
theorem uP_y {D : Debt} {w : Int} {k : Nat} (hk : k < D.paid.length) (h : (D.paid.getD k default).who = w) : uP D w k ++ [D.paid.getD k default] = uP D w (k + 1) := by
  unfold uP
  rw [take_s (d := default) hk, List.filter_append, List.filter_cons, if_pos (decide_eq_true h)]; rfl
theorem uP_n {D : Debt} {w : Int} {k : Nat} (hk : k < D.paid.length) (h : ¬ (D.paid.getD k default).who = w) : uP D w k = uP D w (k + 1) := by
  unfold uP
  rw [take_s (d := default) hk, List.filter_append, List.filter_cons, if_neg (by rw [decide_eq_false h]; decide)]; simp
theorem uU_y {D : Debt} {w : Int} {k : Nat} (hk : k < D.dues.length) (h : (D.dues.getD k default).who = w) : uU D w k ++ [D.dues.getD k default] = uU D w (k + 1) := by
  unfold uU
  rw [take_s (d := default) hk, List.filter_append, List.filter_cons, if_pos (decide_eq_true h)]; rfl
theorem uU_n {D : Debt} {w : Int} {k : Nat} (hk : k < D.dues.length) (h : ¬ (D.dues.getD k default).who = w) : uU D w k = uU D w (k + 1) := by
  unfold uU
  rw [take_s (d := default) hk, List.filter_append, List.filter_cons, if_neg (by rw [decide_eq_false h]; decide)]; simp
theorem tP_all {D : Debt} : tP D D.paid.length = (tD D).paid := List.take_of_length_le (by rw [List.length_reverse]; exact Nat.le_refl _)
theorem uP_all {D : Debt} {w : Int} : uP D w D.paid.length = (uD D w).paid := by unfold uP; rw [List.take_of_length_le (Nat.le_refl _)]; rfl
theorem uU_all {D : Debt} {w : Int} : uU D w D.dues.length = (uD D w).dues := by unfold uU; rw [List.take_of_length_le (Nat.le_refl _)]; rfl
theorem tP_len {D : Debt} {k : Nat} : (tP D k).length ≤ D.paid.length := by unfold tP; rw [List.length_take, List.length_reverse]; omega
theorem uP_len {D : Debt} {w : Int} {k : Nat} : (uP D w k).length ≤ D.paid.length := Nat.le_trans (List.length_filter_le ..) (by rw [List.length_take]; omega)
theorem uU_len {D : Debt} {w : Int} {k : Nat} : (uU D w k).length ≤ D.dues.length := Nat.le_trans (List.length_filter_le ..) (by rw [List.length_take]; omega)
theorem y_cells (D : Debt) (i : Nat) (uo po : Option Addr) (uc pc : Nat) : [i64 D.people, .slice uo D.dues.length uc, .slice po D.paid.length pc] = cellsD (yD D i) uo po uc pc := by
  show _ = [_, _, Value.slice po (D.paid.set i _).length pc]
  rw [List.length_set]; rfl
theorem z_cells (D : Debt) (i : Nat) (uo po : Option Addr) (uc pc : Nat) : [i64 D.people, .slice uo D.dues.length uc, .slice po D.paid.length pc] = cellsD (zD D i) uo po uc pc := by
  show _ = [_, Value.slice uo (D.dues.set i _).length uc, _]
  rw [List.length_set]; rfl
theorem t_cells (D : Debt) (uo po : Option Addr) (uc pc : Nat) : [i64 D.people, .slice uo D.dues.length uc, .slice po (tP D D.paid.length).length pc] = cellsD (tD D) uo po uc pc := by
  rw [tP_all]; rfl
theorem u_cells (D : Debt) (w : Int) (uo po : Option Addr) (uc pc : Nat) : [i64 D.people, .slice uo (uU D w D.dues.length).length uc, .slice po (uP D w D.paid.length).length pc] = cellsD (uD D w) uo po uc pc := by
  rw [uP_all, uU_all]; rfl
theorem yD_paid (D : Debt) (i : Nat) (sp : List Value) (h : i < D.paid.length) : (D.paid.flatMap encP ++ sp).set (i * 4 + 2) (i64 (min (D.paid.getD i default).sods.hi ((D.paid.getD i default).sods.lo + 1))) = (yD D i).paid.flatMap encP ++ sp := flat_set encP_len _ _ 2 h (by decide) rfl
theorem zD_dues (D : Debt) (i : Nat) (sp : List Value) (h : i < D.dues.length) : (D.dues.flatMap encD ++ sp).set (i * 5 + 3) (i64 (max (D.dues.getD i default).sods.lo ((D.dues.getD i default).sods.hi - 1))) = (zD D i).dues.flatMap encD ++ sp := flat_set encD_len _ _ 3 h (by decide) rfl
theorem y_none {D : Debt} {i : Nat} (h : D.paid.length = 0) : (yD D i).paid = D.paid := by
  have e : D.paid = [] := List.length_eq_zero_iff.1 h
  show D.paid.set i _ = D.paid
  rw [e]; rfl
theorem z_none {D : Debt} {i : Nat} (h : D.dues.length = 0) : (zD D i).dues = D.dues := by
  have e : D.dues = [] := List.length_eq_zero_iff.1 h
  show D.dues.set i _ = D.dues
  rw [e]; rfl
theorem x_cells (D : Debt) (p : Paid) (uo po : Option Addr) (uc pc : Nat) : [i64 D.people, .slice uo D.dues.length uc, .slice po (D.paid ++ [p]).length pc] = cellsD (moreP D p) uo po uc pc := rfl
theorem x_paid (D : Debt) (p : Paid) : (moreP D p).paid = D.paid ++ [p] := rfl
theorem x_dues (D : Debt) (p : Paid) : (moreP D p).dues = D.dues := rfl
theorem y_dues (D : Debt) (i : Nat) : (yD D i).dues = D.dues := rfl
theorem z_paid (D : Debt) (i : Nat) : (zD D i).paid = D.paid := rfl
theorem t_dues (D : Debt) : (tD D).dues = D.dues := rfl
theorem y_len (D : Debt) (i : Nat) : (yD D i).paid.length = D.paid.length := List.length_set ..
theorem z_len (D : Debt) (i : Nat) : (zD D i).dues.length = D.dues.length := List.length_set ..
theorem t_len (D : Debt) : (tD D).paid.length = D.paid.length := List.length_reverse ..
theorem u_len (D : Debt) (w : Int) : (uD D w).dues.length ≤ D.dues.length ∧ (uD D w).paid.length ≤ D.paid.length := ⟨List.length_filter_le .., List.length_filter_le ..⟩
theorem v_people (D : Debt) (p : Paid) (i j : Nat) (w : Int) : (moreP D p).people = D.people ∧ (yD D i).people = D.people ∧ (zD D j).people = D.people ∧ (tD D).people = D.people ∧ (uD D w).people = D.people := ⟨rfl, rfl, rfl, rfl, rfl⟩
attribute [local irreducible] leftT aheadT gradeS setT needT yD zD tD uD moreP tP uP uU LawV
variable (D : Debt) (uo po : Option Addr) (uc pc : Nat)
set_option maxHeartbeats 4000000 in
theorem mores_not (p0 : Paid) (w0 : Nat) (b0 : w0 ≤ 255) (w1 : Nat) (b1 : w1 ≤ 255) (hfg : ¬ (¬ farD D ∧ GoodD D)) : FnV Tryd.prog 11 [valD D uo po uc pc, .agg #[i64 p0.who, i64 p0.day, i64 p0.sods.lo, i64 p0.sods.hi], .int .u8 w0, .int .u8 w1] [rowD uo 5 encD D.dues, rowD po 4 encP D.paid, rowD (some ⟨0, 0, none⟩) 1 encE ([0, 1] : List Nat)] (.bool true) := by
 refine FnV.intro Tryd.call11 Tryd.func11 rfl Tryd.ntmps11 rfl ?_
 intro W M Rf
 refine r_seq ?_
 refine r_region ?_
 refine o_boxA rfl rfl rfl rfl rfl (fun b4 => ?_)
 refine o_boxA rfl rfl rfl rfl rfl (fun b5 => ?_)
 refine o_q _ rfl rfl rfl (v_assign rfl rfl) ?_
 refine o_nil ?_
 repeat (first | with_reducible refine r_then ?_ | with_reducible refine r_in_normal ?_ | with_reducible refine r_sc_normal ?_)
 refine r_seq ?_
 refine r_seq ?_
 refine r_region ?_
 first | refine o_q _ rfl rfl rfl (v_ldW rfl Tryd.underlying25 rfl inf25 rfl rfl) ?_ | refine o_q _ rfl rfl rfl (v_lfW rfl Tryd.underlying25 rfl inf25 rfl rfl) ?_ | refine o_q _ rfl rfl rfl (v_lfN rfl Tryd.underlying25 rfl inf25 rfl rfl rfl) ?_ | refine o_q _ rfl rfl rfl (v_ldN rfl Tryd.underlying25 rfl inf25 rfl rfl rfl) ?_ | refine o_q _ rfl rfl rfl (v_loadEN rfl Tryd.underlying25 rfl inf25 rfl (by omega) rfl rfl rfl) ?_
 refine o_q _ rfl rfl rfl (v_cast (v := .bool false) (OpQ.fn (fine_v D uo po uc pc) rfl rfl SubRC.sub) (congrArg Value.bool (decide_eq_false hfg))) ?_
 refine o_q _ rfl rfl rfl (v_not rfl rfl) ?_
 refine o_nil ?_
 repeat (first | with_reducible refine r_then ?_ | with_reducible refine r_in_normal ?_ | with_reducible refine r_sc_normal ?_)
 first | refine r_condd rfl (fun hc40 => ?_) (fun hc40 => ?_) | refine r_cond rfl (fun hc40 => ?_) (fun hc40 => ?_)
 ·
  first
  | (exfalso; revert hc40; decide)
  | (exfalso; omega)
  |
   skip
   refine r_seq ?_
   refine r_region ?_
   refine o_q _ rfl rfl rfl (OpQ.fn awake_v rfl rfl SubRC.sub) ?_
   refine o_q _ rfl rfl rfl (v_assign rfl rfl) ?_
   refine o_nil ?_
   repeat (first | with_reducible refine r_then ?_ | with_reducible refine r_in_normal ?_ | with_reducible refine r_sc_normal ?_)
   refine r_ret ?_
   repeat (first | with_reducible refine r_then_ret ?_ | with_reducible refine r_in_ret ?_ | with_reducible refine r_sc_ret ?_)
   exact r_retv2 (Rd.tmp rfl rfl) rfl SelMC.sel SubRC.sub
 ·
  first
  | (exfalso; revert hc40; decide)
  | (exfalso; omega)
  |
   skip
   refine r_skip ?_
   repeat (first | with_reducible refine r_then ?_ | with_reducible refine r_in_normal ?_ | with_reducible refine r_sc_normal ?_)
   refine r_seq ?_
   skip
set_option maxHeartbeats 4000000 in
theorem mores_ok (p0 : Paid) (w0 : Nat) (b0 : w0 ≤ 255) (w1 : Nat) (b1 : w1 ≤ 255) (wk dk iy iz : Nat) (hwk : w0 % D.people.toNat = wk) (hdk : w1 % 31 = dk) (hiy : w0 % D.paid.length = iy) (hiz : w0 % D.dues.length = iz) (hf : ¬ farD D) (hg : GoodD D) : FnV Tryd.prog 11 [valD D uo po uc pc, .agg #[i64 p0.who, i64 p0.day, i64 p0.sods.lo, i64 p0.sods.hi], .int .u8 w0, .int .u8 w1] [rowD uo 5 encD D.dues, rowD po 4 encP D.paid, rowD (some ⟨0, 0, none⟩) 1 encE ([0, 1] : List Nat)] (.bool true) := by
  have hf2 := hf
  unfold farD at hf2
  have hl1 : D.dues.length ≤ 40 := by omega
  have hl2 : D.paid.length ≤ 40 := by omega
  have hp1 := hg.np
  have hp2 := hg.nd
  have hp3 := hg.ny
  have hwp : (wk : Int) < D.people := by have : wk < D.people.toNat := by rw [← hwk]; exact Nat.mod_lt _ (by omega)
                                         omega
  have hdp : dk ≤ 30 := by omega
  refine FnV.intro Tryd.call11 Tryd.func11 rfl Tryd.ntmps11 rfl ?_
  intro W M Rf
  refine r_seq ?_
  refine r_region ?_
  refine o_boxA rfl rfl rfl rfl rfl (fun b4 => ?_)
  refine o_boxA rfl rfl rfl rfl rfl (fun b5 => ?_)
  refine o_q _ rfl rfl rfl (v_assign rfl rfl) ?_
  refine o_nil ?_
  repeat (first | with_reducible refine r_then ?_ | with_reducible refine r_in_normal ?_ | with_reducible refine r_sc_normal ?_)
  refine r_seq ?_
  refine r_seq ?_
  refine r_region ?_
  first | refine o_q _ rfl rfl rfl (v_ldW rfl Tryd.underlying25 rfl inf25 rfl rfl) ?_ | refine o_q _ rfl rfl rfl (v_lfW rfl Tryd.underlying25 rfl inf25 rfl rfl) ?_ | refine o_q _ rfl rfl rfl (v_lfN rfl Tryd.underlying25 rfl inf25 rfl rfl rfl) ?_ | refine o_q _ rfl rfl rfl (v_ldN rfl Tryd.underlying25 rfl inf25 rfl rfl rfl) ?_ | refine o_q _ rfl rfl rfl (v_loadEN rfl Tryd.underlying25 rfl inf25 rfl (by omega) rfl rfl rfl) ?_
  refine o_q _ rfl rfl rfl (v_cast (v := .bool true) (OpQ.fn (fine_v D uo po uc pc) rfl rfl SubRC.sub) (congrArg Value.bool (decide_eq_true ⟨hf, hg⟩))) ?_
  refine o_q _ rfl rfl rfl (v_not rfl rfl) ?_
  refine o_nil ?_
  repeat (first | with_reducible refine r_then ?_ | with_reducible refine r_in_normal ?_ | with_reducible refine r_sc_normal ?_)
  first | refine r_condd rfl (fun hc40 => ?_) (fun hc40 => ?_) | refine r_cond rfl (fun hc40 => ?_) (fun hc40 => ?_)
  ·
    first
    | (exfalso; revert hc40; decide)
    | (exfalso; omega)
    | skip
      refine r_seq ?_
      refine r_region ?_
      refine o_q _ rfl rfl rfl (OpQ.fn awake_v rfl rfl SubRC.sub) ?_
      refine o_q _ rfl rfl rfl (v_assign rfl rfl) ?_
      refine o_nil ?_
      repeat (first | with_reducible refine r_then ?_ | with_reducible refine r_in_normal ?_ | with_reducible refine r_sc_normal ?_)
      refine r_ret ?_
      repeat (first | with_reducible refine r_then_ret ?_ | with_reducible refine r_in_ret ?_ | with_reducible refine r_sc_ret ?_)
      first | exact r_retv2 (Rd.tmp rfl rfl) rfl SelMC.sel SubRC.sub | (exfalso; omega)
  ·
    first
    | (exfalso; revert hc40; decide)
    | (exfalso; omega)
    | skip
      refine r_skip ?_
      repeat (first | with_reducible refine r_then ?_ | with_reducible refine r_in_normal ?_ | with_reducible refine r_sc_normal ?_)
      refine r_seq ?_
      refine r_region ?_
      refine o_q _ rfl rfl rfl (v_move rfl rfl) ?_
      refine o_q _ rfl rfl rfl (v_conv rfl Tryd.underlying5 Tryd.underlying3 rfl (IntWalk.i64_in _ (by omega))) ?_
      first | refine o_q _ rfl rfl rfl (v_fieldAddr rfl Tryd.underlying25 inf3 rfl rfl rfl rfl) ?_ | refine o_q _ rfl rfl rfl (v_fieldAddrE rfl Tryd.underlying25 inf3 rfl rfl rfl rfl) ?_
      first | refine o_q _ rfl rfl rfl (v_ld1 rfl Tryd.underlying3 rfl rfl rfl) ?_ | refine o_q _ rfl rfl rfl (v_lf1 rfl Tryd.underlying3 rfl rfl rfl) ?_ | refine o_q _ rfl rfl rfl (v_loadE1 rfl Tryd.underlying3 rfl rfl (by omega) rfl rfl) ?_
      refine o_q _ rfl rfl rfl (v_cast (v := i64 (wk : Nat)) (v_rem rfl rfl rfl (by omega)) (tmodE hwk (by omega))) ?_
      refine o_q _ rfl rfl rfl (v_move rfl rfl) ?_
      refine o_q _ rfl rfl rfl (v_conv rfl Tryd.underlying5 Tryd.underlying3 rfl (IntWalk.i64_in _ (by omega))) ?_
      refine o_q _ rfl rfl rfl (v_cast (v := i64 (dk : Nat)) (v_rem rfl rfl rfl (by omega)) (tmodE hdk (by omega))) ?_
      refine o_q _ rfl rfl rfl (v_assign rfl rfl) ?_
      refine o_q _ rfl rfl rfl (v_assign rfl rfl) ?_
      refine o_nil ?_
      repeat (first | with_reducible refine r_then ?_ | with_reducible refine r_in_normal ?_ | with_reducible refine r_sc_normal ?_)
      refine r_seq ?_
      refine r_par' 15 mixed (by kernel_rfl) (by rfl) ?_
      first | refine p_q _ rfl rfl rfl (fun _ _ => v_ldW rfl Tryd.underlying25 rfl inf25 rfl rfl) ?_ | refine p_q _ rfl rfl rfl (fun _ _ => v_lfW rfl Tryd.underlying25 rfl inf25 rfl rfl) ?_ | refine p_q _ rfl rfl rfl (fun _ _ => v_lfN rfl Tryd.underlying25 rfl inf25 rfl rfl rfl) ?_ | refine p_q _ rfl rfl rfl (fun _ _ => v_ldN rfl Tryd.underlying25 rfl inf25 rfl rfl rfl) ?_ | refine p_q _ rfl rfl rfl (fun _ _ => v_loadEN rfl Tryd.underlying25 rfl inf25 rfl (by omega) rfl rfl rfl) ?_
      first | refine p_q _ rfl rfl rfl (fun _ _ => v_ldW rfl Tryd.underlying25 rfl inf25 rfl rfl) ?_ | refine p_q _ rfl rfl rfl (fun _ _ => v_lfW rfl Tryd.underlying25 rfl inf25 rfl rfl) ?_ | refine p_q _ rfl rfl rfl (fun _ _ => v_lfN rfl Tryd.underlying25 rfl inf25 rfl rfl rfl) ?_ | refine p_q _ rfl rfl rfl (fun _ _ => v_ldN rfl Tryd.underlying25 rfl inf25 rfl rfl rfl) ?_ | refine p_q _ rfl rfl rfl (fun _ _ => v_loadEN rfl Tryd.underlying25 rfl inf25 rfl (by omega) rfl rfl rfl) ?_
      first | refine p_q _ rfl rfl rfl (fun _ _ => v_ldW rfl Tryd.underlying25 rfl inf25 rfl rfl) ?_ | refine p_q _ rfl rfl rfl (fun _ _ => v_lfW rfl Tryd.underlying25 rfl inf25 rfl rfl) ?_ | refine p_q _ rfl rfl rfl (fun _ _ => v_lfN rfl Tryd.underlying25 rfl inf25 rfl rfl rfl) ?_ | refine p_q _ rfl rfl rfl (fun _ _ => v_ldN rfl Tryd.underlying25 rfl inf25 rfl rfl rfl) ?_ | refine p_q _ rfl rfl rfl (fun _ _ => v_loadEN rfl Tryd.underlying25 rfl inf25 rfl (by omega) rfl rfl rfl) ?_
      first | refine p_q _ rfl rfl rfl (fun _ _ => v_ldW rfl Tryd.underlying25 rfl inf25 rfl rfl) ?_ | refine p_q _ rfl rfl rfl (fun _ _ => v_lfW rfl Tryd.underlying25 rfl inf25 rfl rfl) ?_ | refine p_q _ rfl rfl rfl (fun _ _ => v_lfN rfl Tryd.underlying25 rfl inf25 rfl rfl rfl) ?_ | refine p_q _ rfl rfl rfl (fun _ _ => v_ldN rfl Tryd.underlying25 rfl inf25 rfl rfl rfl) ?_ | refine p_q _ rfl rfl rfl (fun _ _ => v_loadEN rfl Tryd.underlying25 rfl inf25 rfl (by omega) rfl rfl rfl) ?_
      first | refine p_q _ rfl rfl rfl (fun _ _ => v_ldW rfl Tryd.underlying25 rfl inf25 rfl rfl) ?_ | refine p_q _ rfl rfl rfl (fun _ _ => v_lfW rfl Tryd.underlying25 rfl inf25 rfl rfl) ?_ | refine p_q _ rfl rfl rfl (fun _ _ => v_lfN rfl Tryd.underlying25 rfl inf25 rfl rfl rfl) ?_ | refine p_q _ rfl rfl rfl (fun _ _ => v_ldN rfl Tryd.underlying25 rfl inf25 rfl rfl rfl) ?_ | refine p_q _ rfl rfl rfl (fun _ _ => v_loadEN rfl Tryd.underlying25 rfl inf25 rfl (by omega) rfl rfl rfl) ?_
      refine p_allocL 10 (cellsD D uo po uc pc) rfl inf25 rfl rfl rfl rfl rfl ?_
      refine p_allocL 11 (cellsD D uo po uc pc) rfl inf25 rfl rfl rfl rfl rfl ?_
      refine p_allocL 12 (cellsD D uo po uc pc) rfl inf25 rfl rfl rfl rfl rfl ?_
      refine p_allocL 13 (cellsD D uo po uc pc) rfl inf25 rfl rfl rfl rfl rfl ?_
      refine p_allocL 14 (cellsD D uo po uc pc) rfl inf25 rfl rfl rfl rfl rfl ?_
      refine p_acc (by simp only [List.nil_append, List.cons_append]; rfl) ?_
      refine p_stl 5 rfl rfl rfl inf25 rfl rfl rfl (by kernel_rfl) (fun _ => rfl) rfl rfl rfl rfl ?_
      refine p_acc (by simp only [List.nil_append, List.cons_append]; rfl) ?_
      refine p_stl 6 rfl rfl rfl inf25 rfl rfl rfl (by kernel_rfl) (fun _ => rfl) rfl rfl rfl rfl ?_
      refine p_acc (by simp only [List.nil_append, List.cons_append]; rfl) ?_
      refine p_stl 7 rfl rfl rfl inf25 rfl rfl rfl (by kernel_rfl) (fun _ => rfl) rfl rfl rfl rfl ?_
      refine p_acc (by simp only [List.nil_append, List.cons_append]; rfl) ?_
      refine p_stl 8 rfl rfl rfl inf25 rfl rfl rfl (by kernel_rfl) (fun _ => rfl) rfl rfl rfl rfl ?_
      refine p_acc (by simp only [List.nil_append, List.cons_append]; rfl) ?_
      refine p_stl 9 rfl rfl rfl inf25 rfl rfl rfl (by kernel_rfl) (fun _ => rfl) rfl rfl rfl rfl ?_
      refine p_nil2 (by simp only [List.nil_append, List.cons_append]; rfl) rfl ?_ (by kernel_rfl)
      refine f_q rfl ?_
      refine f_q rfl ?_
      refine f_q rfl ?_
      refine f_q rfl ?_
      refine f_q rfl ?_
      refine f_allocL rfl (fun b11 => ?_)
      refine f_allocL rfl (fun b12 => ?_)
      refine f_allocL rfl (fun b13 => ?_)
      refine f_allocL rfl (fun b14 => ?_)
      refine f_allocL rfl (fun b15 => ?_)
      refine f_s rfl ?_
      refine f_s rfl ?_
      refine f_s rfl ?_
      refine f_s rfl ?_
      refine f_s rfl ?_
      refine f_nil ?_
      refine o_nil ?_
      repeat (first | with_reducible refine r_then ?_ | with_reducible refine r_in_normal ?_ | with_reducible refine r_sc_normal ?_)
      refine r_seq ?_
      refine Imp.box_to b5 (encP p0) rfl ?_
      refine r_par' 12 mixed (by kernel_rfl) (by rfl) ?_
      refine p_lit0 rfl Tryd.underlying23 inf54 rfl rfl rfl ?_
      first | refine p_q _ rfl rfl rfl (fun _ _ => v_fieldAddr rfl Tryd.underlying25 inf23 rfl rfl rfl rfl) ?_ | refine p_q _ rfl rfl rfl (fun _ _ => v_fieldAddrE rfl Tryd.underlying25 inf23 rfl rfl rfl rfl) ?_
      first | refine p_q _ rfl rfl rfl (fun _ _ => v_ld1 rfl Tryd.underlying23 rfl rfl rfl) ?_ | refine p_q _ rfl rfl rfl (fun _ _ => v_lf1 rfl Tryd.underlying23 rfl rfl rfl) ?_ | refine p_q _ rfl rfl rfl (fun _ _ => v_loadE1 rfl Tryd.underlying23 rfl rfl (by omega) rfl rfl) ?_
      refine p_acc (by simp only [List.nil_append, List.cons_append]; rfl) ?_
      refine p_appNL (sz := 4) 6 0 rfl rfl rfl (by kernel_rfl) rfl rfl rfl rfl Tryd.underlying23 inf54 rfl rfl rfl encP_len (fun _ => rfl) ⟨by omega, by decide⟩ ?_
      first | refine p_q _ rfl rfl rfl (fun _ _ => v_ldW rfl Tryd.underlying54 rfl inf54 rfl rfl) ?_ | refine p_q _ rfl rfl rfl (fun _ _ => v_lfW rfl Tryd.underlying54 rfl inf54 rfl rfl) ?_ | refine p_q _ rfl rfl rfl (fun _ _ => v_lfN rfl Tryd.underlying54 rfl inf54 rfl rfl rfl) ?_ | refine p_q _ rfl rfl rfl (fun _ _ => v_ldN rfl Tryd.underlying54 rfl inf54 rfl rfl rfl) ?_ | refine p_q _ rfl rfl rfl (fun _ _ => v_loadEN rfl Tryd.underlying54 rfl inf54 rfl (by omega) rfl rfl rfl) ?_
      refine p_lit rfl Tryd.underlying23 inf54 rfl rfl rfl rfl rfl rfl rfl rfl (by repeat (first | exact trivial | refine ⟨rfl, ?_⟩)) (by rfl) ?_
      refine p_acc (by simp only [List.nil_append, List.cons_append]; rfl) ?_
      refine p_appT (sz := 4) 3 5 (p0) rfl rfl rfl (by kernel_rfl) rfl rfl rfl (by kernel_rfl) rfl rfl rfl rfl rfl Tryd.underlying23 inf54 rfl rfl rfl encP_len rfl rfl ⟨by omega, by decide⟩ ?_
      refine p_lit0 rfl Tryd.underlying23 inf54 rfl rfl rfl ?_
      first | refine p_q _ rfl rfl rfl (fun _ _ => v_fieldAddr rfl Tryd.underlying25 inf23 rfl rfl rfl rfl) ?_ | refine p_q _ rfl rfl rfl (fun _ _ => v_fieldAddrE rfl Tryd.underlying25 inf23 rfl rfl rfl rfl) ?_
      first | refine p_q _ rfl rfl rfl (fun _ _ => v_ld1 rfl Tryd.underlying23 rfl rfl rfl) ?_ | refine p_q _ rfl rfl rfl (fun _ _ => v_lf1 rfl Tryd.underlying23 rfl rfl rfl) ?_ | refine p_q _ rfl rfl rfl (fun _ _ => v_loadE1 rfl Tryd.underlying23 rfl rfl (by omega) rfl rfl) ?_
      refine p_acc (by simp only [List.nil_append, List.cons_append]; rfl) ?_
      refine p_appN (sz := 4) 7 rfl rfl rfl (by kernel_rfl) rfl rfl rfl rfl Tryd.underlying23 inf54 rfl rfl rfl encP_len (fun _ => rfl) ⟨by omega, by decide⟩ ?_
      first | refine p_q _ rfl rfl rfl (fun _ _ => v_fieldAddr rfl Tryd.underlying25 inf23 rfl rfl rfl rfl) ?_ | refine p_q _ rfl rfl rfl (fun _ _ => v_fieldAddrE rfl Tryd.underlying25 inf23 rfl rfl rfl rfl) ?_
      refine p_nil2 (by simp only [List.nil_append, List.cons_append]; rfl) rfl ?_ (by kernel_rfl)
      refine f_l0 rfl (fun b55 => ?_)
      refine f_q rfl ?_
      refine f_q rfl ?_
      refine f_ozl rfl (fun v58 => ?_)
      refine f_q rfl ?_
      refine f_lit rfl (fun b60 => ?_)
      refine f_apt rfl (fun v61 => ?_)
      refine f_l0 rfl (fun b62 => ?_)
      refine f_q rfl ?_
      refine f_q rfl ?_
      refine f_oz rfl (fun v65 => ?_)
      refine f_q rfl ?_
      refine f_nil ?_
      refine Imp.settleS v61 encP_len (fun xo xc hv => ?_)
      subst hv
      refine Imp.isZ (T := 54) (sz := 4) (enc := encP) (xs := D.paid) v65 (fun hs => ?_)
      obtain ⟨ya, ycap, rfl⟩ := hs
      refine o_st rfl inf23 rfl rfl rfl rfl rfl rfl rfl rfl ?_
      first | refine o_q _ rfl rfl rfl (v_fieldAddr rfl Tryd.underlying25 inf23 rfl rfl rfl rfl) ?_ | refine o_q _ rfl rfl rfl (v_fieldAddrE rfl Tryd.underlying25 inf23 rfl rfl rfl rfl) ?_
      refine o_st rfl inf23 rfl rfl rfl rfl rfl rfl rfl rfl ?_
      refine o_nil ?_
      repeat (first | with_reducible refine r_then ?_ | with_reducible refine r_in_normal ?_ | with_reducible refine r_sc_normal ?_)
      refine r_seq ?_
      refine r_region ?_
      refine o_lit0' rfl Tryd.underlying22 inf62 rfl rfl rfl (fun b68 => ?_)
      first | refine o_q _ rfl rfl rfl (v_fieldAddr rfl Tryd.underlying25 inf22 rfl rfl rfl rfl) ?_ | refine o_q _ rfl rfl rfl (v_fieldAddrE rfl Tryd.underlying25 inf22 rfl rfl rfl rfl) ?_
      first | refine o_q _ rfl rfl rfl (v_ld1 rfl Tryd.underlying22 rfl rfl rfl) ?_ | refine o_q _ rfl rfl rfl (v_lf1 rfl Tryd.underlying22 rfl rfl rfl) ?_ | refine o_q _ rfl rfl rfl (v_loadE1 rfl Tryd.underlying22 rfl rfl (by omega) rfl rfl) ?_
      refine o_appN (sz := 5) rfl Tryd.underlying22 inf62 rfl rfl rfl encD_len rfl rfl rfl rfl rfl ⟨by omega, by decide⟩ (fun v71 => ?_)
      refine Imp.isZ (T := 62) (sz := 5) (enc := encD) (xs := D.dues) v71 (fun hs => ?_)
      obtain ⟨za, zcap, rfl⟩ := hs
      first | refine o_q _ rfl rfl rfl (v_fieldAddr rfl Tryd.underlying25 inf22 rfl rfl rfl rfl) ?_ | refine o_q _ rfl rfl rfl (v_fieldAddrE rfl Tryd.underlying25 inf22 rfl rfl rfl rfl) ?_
      refine o_st rfl inf22 rfl rfl rfl rfl rfl rfl rfl rfl ?_
      first | refine o_q _ rfl rfl rfl (v_fieldAddr rfl Tryd.underlying25 inf23 rfl rfl rfl rfl) ?_ | refine o_q _ rfl rfl rfl (v_fieldAddrE rfl Tryd.underlying25 inf23 rfl rfl rfl rfl) ?_
      refine o_st rfl inf23 rfl rfl rfl rfl rfl rfl rfl rfl ?_
      first | refine o_q _ rfl rfl rfl (v_fieldAddr rfl Tryd.underlying25 inf22 rfl rfl rfl rfl) ?_ | refine o_q _ rfl rfl rfl (v_fieldAddrE rfl Tryd.underlying25 inf22 rfl rfl rfl rfl) ?_
      refine o_st rfl inf22 rfl rfl rfl rfl rfl rfl rfl rfl ?_
      first | refine o_q _ rfl rfl rfl (v_fieldAddr rfl Tryd.underlying25 inf23 rfl rfl rfl rfl) ?_ | refine o_q _ rfl rfl rfl (v_fieldAddrE rfl Tryd.underlying25 inf23 rfl rfl rfl rfl) ?_
      refine o_st rfl inf23 rfl rfl rfl rfl rfl rfl rfl rfl ?_
      refine o_nil ?_
      repeat (first | with_reducible refine r_then ?_ | with_reducible refine r_in_normal ?_ | with_reducible refine r_sc_normal ?_)
      refine r_mid (ι := Unit) (fun uu => True) (fun uu => [(2, .int .u8 w0), (3, .int .u8 w1), (4, pt b4 0), (9, i64 (wk : Int)), (10, i64 (dk : Int)), (11, pt b11 0), (12, pt b12 0), (13, pt b13 0), (14, pt b14 0), (15, pt b15 0)]) (fun uu => bx b12 25 (cellsD (yD D iy) uo ya uc ycap) :: bx b11 25 [i64 D.people, .slice uo D.dues.length uc, .slice xo (D.paid ++ [p0]).length xc] :: bx b13 25 [i64 D.people, .slice za D.dues.length zcap, .slice po D.paid.length pc] :: ownZ (.slice za D.dues.length zcap) 62 5 encD D.dues :: bx b14 25 [i64 D.people, .slice uo D.dues.length uc, .slice none 0 0] :: bx b15 25 [i64 D.people, .slice none 0 0, .slice none 0 0] :: bx b4 25 (cellsD D uo po uc pc) :: M) (fun uu => rowD ya 4 encP (yD D iy).paid :: rowD xo 4 encP (D.paid ++ [p0]) :: ([rowD uo 5 encD D.dues, rowD po 4 encP D.paid, rowD (some ⟨0, 0, none⟩) 1 encE ([0, 1] : List Nat)] ++ Rf)) ?_ ?_
      ·
        refine r_seq ?_
        refine Imp.box_to b11 [i64 D.people, .slice uo D.dues.length uc, .slice xo (D.paid ++ [p0]).length xc] rfl ?_
        refine Imp.box_to b13 [i64 D.people, .slice za D.dues.length zcap, .slice po D.paid.length pc] rfl ?_
        refine Imp.box_to b14 [i64 D.people, .slice uo D.dues.length uc, .slice none 0 0] rfl ?_
        refine Imp.box_to b15 [i64 D.people, .slice none 0 0, .slice none 0 0] rfl ?_
        refine Imp.box_to b12 [i64 D.people, .slice uo D.dues.length uc, .slice ya D.paid.length ycap] rfl ?_
        refine r_region ?_
        first | refine o_q _ rfl rfl rfl (v_fieldAddr rfl Tryd.underlying25 inf23 rfl rfl rfl rfl) ?_ | refine o_q _ rfl rfl rfl (v_fieldAddrE rfl Tryd.underlying25 inf23 rfl rfl rfl rfl) ?_
        first | refine o_q _ rfl rfl rfl (v_ld1 rfl Tryd.underlying23 rfl rfl rfl) ?_ | refine o_q _ rfl rfl rfl (v_lf1 rfl Tryd.underlying23 rfl rfl rfl) ?_ | refine o_q _ rfl rfl rfl (v_loadE1 rfl Tryd.underlying23 rfl rfl (by omega) rfl rfl) ?_
        refine o_q _ rfl rfl rfl (v_len rfl rfl Tryd.underlying23 rfl) ?_
        refine o_q _ rfl rfl rfl (v_gtr rfl rfl rfl) ?_
        refine o_nil ?_
        repeat (first | with_reducible refine r_then ?_ | with_reducible refine r_in_normal ?_ | with_reducible refine r_sc_normal ?_)
        first | refine r_condd rfl (fun hc79 => ?_) (fun hc79 => ?_) | refine r_cond rfl (fun hc79 => ?_) (fun hc79 => ?_)
        ·
          first
          | (exfalso; revert hc79; decide)
          | (exfalso; omega)
          | skip
            refine r_seq ?_
            refine Imp.openZ (T := 54) (sz := 4) (enc := encP) (xs := D.paid) (.slice ya D.paid.length ycap) (by omega) (fun yb yc ysp hq => ?_)
            cases hq
            have hiy2 : iy < D.paid.length := by rw [← hiy]; exact Nat.mod_lt _ (by omega)
            refine r_region_q mixed (by kernel_rfl) ?_
            first | refine q_q _ rfl rfl rfl (v_fieldAddr rfl Tryd.underlying25 inf23 rfl rfl rfl rfl) ?_ | refine q_q _ rfl rfl rfl (v_fieldAddrE rfl Tryd.underlying25 inf23 rfl rfl rfl rfl) ?_
            first | refine q_q _ rfl rfl rfl (v_ld1 rfl Tryd.underlying23 rfl rfl rfl) ?_ | refine q_q _ rfl rfl rfl (v_lf1 rfl Tryd.underlying23 rfl rfl rfl) ?_ | refine q_q _ rfl rfl rfl (v_loadE1 rfl Tryd.underlying23 rfl rfl (by omega) rfl rfl) ?_
            refine q_q _ rfl rfl rfl (v_move rfl rfl) ?_
            refine q_q _ rfl rfl rfl (v_conv rfl Tryd.underlying5 Tryd.underlying3 rfl (IntWalk.i64_in _ (by omega))) ?_
            first | refine q_q _ rfl rfl rfl (v_fieldAddr rfl Tryd.underlying25 inf23 rfl rfl rfl rfl) ?_ | refine q_q _ rfl rfl rfl (v_fieldAddrE rfl Tryd.underlying25 inf23 rfl rfl rfl rfl) ?_
            first | refine q_q _ rfl rfl rfl (v_ld1 rfl Tryd.underlying23 rfl rfl rfl) ?_ | refine q_q _ rfl rfl rfl (v_lf1 rfl Tryd.underlying23 rfl rfl rfl) ?_ | refine q_q _ rfl rfl rfl (v_loadE1 rfl Tryd.underlying23 rfl rfl (by omega) rfl rfl) ?_
            refine q_q _ rfl rfl rfl (v_len rfl rfl Tryd.underlying23 rfl) ?_
            refine q_q _ rfl rfl rfl (v_cast (v := i64 (iy : Nat)) (v_rem rfl rfl rfl (by omega)) (tmodE hiy (by omega))) ?_
            refine q_q _ rfl rfl rfl (v_indexAddrB rfl Tryd.underlying23 inf54 rfl rfl hiy2) ?_
            first | refine q_q _ rfl rfl rfl (v_fieldAddr rfl Tryd.underlying54 inf29 rfl rfl rfl rfl) ?_ | refine q_q _ rfl rfl rfl (v_fieldAddrE rfl Tryd.underlying54 inf29 rfl rfl rfl rfl) ?_
            refine q_q _ rfl rfl rfl (v_assign rfl rfl) ?_
            refine q_nil ?_
            repeat (first | with_reducible refine r_then ?_ | with_reducible refine r_in_normal ?_ | with_reducible refine r_sc_normal ?_)
            obtain ⟨hq1, hq2, hq3⟩ := hg.paid iy hiy2
            unfold SodsOk at hq3
            refine r_par' 11 mixed (by kernel_rfl) (by rfl) ?_
            refine p_q _ rfl rfl rfl (fun _ _ => v_move rfl rfl) ?_
            refine p_q _ rfl rfl rfl (fun _ _ => v_move rfl rfl) ?_
            refine p_q _ rfl rfl rfl (fun _ _ => v_nilCheck rfl rfl) ?_
            first | refine p_q _ rfl rfl rfl (fun _ _ => v_fieldAddr rfl Tryd.underlying29 inf3 rfl rfl rfl rfl) ?_ | refine p_q _ rfl rfl rfl (fun _ _ => v_fieldAddrE rfl Tryd.underlying29 inf3 rfl rfl rfl rfl) ?_
            refine p_q _ rfl rfl rfl (fun _ _ => v_ld1 (v := i64 (D.paid.getD iy default).sods.hi) rfl Tryd.underlying3 rfl rfl ((flat_get (j := 3) encP_len hiy2 (by decide)).trans rfl)) ?_
            refine p_q _ rfl rfl rfl (fun _ _ => v_move rfl rfl) ?_
            refine p_q _ rfl rfl rfl (fun _ _ => v_nilCheck rfl rfl) ?_
            first | refine p_q _ rfl rfl rfl (fun _ _ => v_fieldAddr rfl Tryd.underlying29 inf3 rfl rfl rfl rfl) ?_ | refine p_q _ rfl rfl rfl (fun _ _ => v_fieldAddrE rfl Tryd.underlying29 inf3 rfl rfl rfl rfl) ?_
            refine p_q _ rfl rfl rfl (fun _ _ => v_ld1 (v := i64 (D.paid.getD iy default).sods.lo) rfl Tryd.underlying3 rfl rfl ((flat_get (j := 2) encP_len hiy2 (by decide)).trans rfl)) ?_
            refine p_q _ rfl rfl rfl (fun _ _ => v_add rfl rfl rfl (by omega)) ?_
            first | refine p_q _ rfl rfl rfl (fun _ _ => v_min2 rfl rfl rfl) ?_ | refine p_q _ rfl rfl rfl (fun _ _ => v_min3 rfl rfl rfl rfl) ?_
            refine p_nil2 (by simp only [List.nil_append, List.cons_append]; rfl) rfl ?_
            refine f_q rfl ?_
            refine f_q rfl ?_
            refine f_q rfl ?_
            refine f_q rfl ?_
            refine f_q rfl ?_
            refine f_q rfl ?_
            refine f_q rfl ?_
            refine f_q rfl ?_
            refine f_q rfl ?_
            refine f_q rfl ?_
            refine f_q rfl ?_
            refine f_nil ?_
            refine o_q _ rfl rfl rfl (v_nilCheck rfl rfl) ?_
            first | refine o_q _ rfl rfl rfl (v_fieldAddr rfl Tryd.underlying29 inf3 rfl rfl rfl rfl) ?_ | refine o_q _ rfl rfl rfl (v_fieldAddrE rfl Tryd.underlying29 inf3 rfl rfl rfl rfl) ?_
            refine o_st rfl inf3 rfl rfl rfl rfl rfl rfl rfl (Nat.ble_eq_true_of_le (by show iy * 4 + 2 + 1 ≤ (D.paid.flatMap encP ++ ysp).length; rw [List.length_append, flat_len encP_len]; omega)) ?_
            refine o_nil ?_
            repeat (first | with_reducible refine r_then ?_ | with_reducible refine r_in_normal ?_ | with_reducible refine r_sc_normal ?_)
            first
            | (refine Imp.box_to yb ((yD D iy).paid.flatMap encP ++ ysp) (yD_paid D iy ysp (by omega)) ?_; refine Imp.sealB yb ?_; refine Imp.rowP (b := yb) (yD D iy).paid encP_len rfl ?_; refine Imp.box_to b12 (cellsD (yD D iy) uo (some ⟨yb, 0, none⟩) uc ycap) (y_cells D iy _ _ _ _) ?_; exact r_here_mid () (by exact r_here (by repeat (first | exact FSub.nil | refine FSub.cons rfl ?_)) SelMC.sel SubRC.sub) trivial)
            | (refine Imp.settleZ (T := 54) (sz := 4) (enc := encP) (xs := D.paid) (.slice ya D.paid.length ycap) encP_len (fun oq cq hq => ?_); cases hq; refine Imp.derive (ψ := rowD ya 4 encP (yD D iy).paid) ?_ (fun V hV => by rw [y_none (by omega)]; exact hV _ (List.mem_cons_self ..)); refine Imp.box_to b12 (cellsD (yD D iy) uo ya uc ycap) (y_cells D iy _ _ _ _) ?_; exact r_here_mid () (by exact r_here (by repeat (first | exact FSub.nil | refine FSub.cons rfl ?_)) SelMC.sel SubRC.sub) trivial)
        ·
          first
          | (exfalso; revert hc79; decide)
          | (exfalso; omega)
          | skip
            refine r_skip ?_
            repeat (first | with_reducible refine r_then ?_ | with_reducible refine r_in_normal ?_ | with_reducible refine r_sc_normal ?_)
            first
            | (refine Imp.box_to yb ((yD D iy).paid.flatMap encP ++ ysp) (yD_paid D iy ysp (by omega)) ?_; refine Imp.sealB yb ?_; refine Imp.rowP (b := yb) (yD D iy).paid encP_len rfl ?_; refine Imp.box_to b12 (cellsD (yD D iy) uo (some ⟨yb, 0, none⟩) uc ycap) (y_cells D iy _ _ _ _) ?_; exact r_here_mid () (by exact r_here (by repeat (first | exact FSub.nil | refine FSub.cons rfl ?_)) SelMC.sel SubRC.sub) trivial)
            | (refine Imp.settleZ (T := 54) (sz := 4) (enc := encP) (xs := D.paid) (.slice ya D.paid.length ycap) encP_len (fun oq cq hq => ?_); cases hq; refine Imp.derive (ψ := rowD ya 4 encP (yD D iy).paid) ?_ (fun V hV => by rw [y_none (by omega)]; exact hV _ (List.mem_cons_self ..)); refine Imp.box_to b12 (cellsD (yD D iy) uo ya uc ycap) (y_cells D iy _ _ _ _) ?_; exact r_here_mid () (by exact r_here (by repeat (first | exact FSub.nil | refine FSub.cons rfl ?_)) SelMC.sel SubRC.sub) trivial)
      ·
        intro uu hm
        refine r_mid (ι := Unit) (fun uu => True) (fun uu => [(2, .int .u8 w0), (3, .int .u8 w1), (4, pt b4 0), (9, i64 (wk : Int)), (10, i64 (dk : Int)), (11, pt b11 0), (12, pt b12 0), (13, pt b13 0), (14, pt b14 0), (15, pt b15 0)]) (fun uu => bx b13 25 (cellsD (zD D iz) za po zcap pc) :: bx b12 25 (cellsD (yD D iy) uo ya uc ycap) :: bx b11 25 [i64 D.people, .slice uo D.dues.length uc, .slice xo (D.paid ++ [p0]).length xc] :: bx b14 25 [i64 D.people, .slice uo D.dues.length uc, .slice none 0 0] :: bx b15 25 [i64 D.people, .slice none 0 0, .slice none 0 0] :: bx b4 25 (cellsD D uo po uc pc) :: M) (fun uu => rowD za 5 encD (zD D iz).dues :: rowD ya 4 encP (yD D iy).paid :: rowD xo 4 encP (D.paid ++ [p0]) :: ([rowD uo 5 encD D.dues, rowD po 4 encP D.paid, rowD (some ⟨0, 0, none⟩) 1 encE ([0, 1] : List Nat)] ++ Rf)) ?_ ?_
        ·
          refine r_seq ?_
          refine r_region ?_
          first | refine o_q _ rfl rfl rfl (v_fieldAddr rfl Tryd.underlying25 inf22 rfl rfl rfl rfl) ?_ | refine o_q _ rfl rfl rfl (v_fieldAddrE rfl Tryd.underlying25 inf22 rfl rfl rfl rfl) ?_
          first | refine o_q _ rfl rfl rfl (v_ld1 rfl Tryd.underlying22 rfl rfl rfl) ?_ | refine o_q _ rfl rfl rfl (v_lf1 rfl Tryd.underlying22 rfl rfl rfl) ?_ | refine o_q _ rfl rfl rfl (v_loadE1 rfl Tryd.underlying22 rfl rfl (by omega) rfl rfl) ?_
          refine o_q _ rfl rfl rfl (v_len rfl rfl Tryd.underlying22 rfl) ?_
          refine o_q _ rfl rfl rfl (v_gtr rfl rfl rfl) ?_
          refine o_nil ?_
          repeat (first | with_reducible refine r_then ?_ | with_reducible refine r_in_normal ?_ | with_reducible refine r_sc_normal ?_)
          first | refine r_condd rfl (fun hc106 => ?_) (fun hc106 => ?_) | refine r_cond rfl (fun hc106 => ?_) (fun hc106 => ?_)
          ·
            first
            | (exfalso; revert hc106; decide)
            | (exfalso; omega)
            | skip
              refine r_seq ?_
              refine Imp.openZ (T := 62) (sz := 5) (enc := encD) (xs := D.dues) (.slice za D.dues.length zcap) (by omega) (fun zb zc zsp hq => ?_)
              cases hq
              have hiz2 : iz < D.dues.length := by rw [← hiz]; exact Nat.mod_lt _ (by omega)
              refine r_region_q mixed (by kernel_rfl) ?_
              first | refine q_q _ rfl rfl rfl (v_fieldAddr rfl Tryd.underlying25 inf22 rfl rfl rfl rfl) ?_ | refine q_q _ rfl rfl rfl (v_fieldAddrE rfl Tryd.underlying25 inf22 rfl rfl rfl rfl) ?_
              first | refine q_q _ rfl rfl rfl (v_ld1 rfl Tryd.underlying22 rfl rfl rfl) ?_ | refine q_q _ rfl rfl rfl (v_lf1 rfl Tryd.underlying22 rfl rfl rfl) ?_ | refine q_q _ rfl rfl rfl (v_loadE1 rfl Tryd.underlying22 rfl rfl (by omega) rfl rfl) ?_
              refine q_q _ rfl rfl rfl (v_move rfl rfl) ?_
              refine q_q _ rfl rfl rfl (v_conv rfl Tryd.underlying5 Tryd.underlying3 rfl (IntWalk.i64_in _ (by omega))) ?_
              first | refine q_q _ rfl rfl rfl (v_fieldAddr rfl Tryd.underlying25 inf22 rfl rfl rfl rfl) ?_ | refine q_q _ rfl rfl rfl (v_fieldAddrE rfl Tryd.underlying25 inf22 rfl rfl rfl rfl) ?_
              first | refine q_q _ rfl rfl rfl (v_ld1 rfl Tryd.underlying22 rfl rfl rfl) ?_ | refine q_q _ rfl rfl rfl (v_lf1 rfl Tryd.underlying22 rfl rfl rfl) ?_ | refine q_q _ rfl rfl rfl (v_loadE1 rfl Tryd.underlying22 rfl rfl (by omega) rfl rfl) ?_
              refine q_q _ rfl rfl rfl (v_len rfl rfl Tryd.underlying22 rfl) ?_
              refine q_q _ rfl rfl rfl (v_cast (v := i64 (iz : Nat)) (v_rem rfl rfl rfl (by omega)) (tmodE hiz (by omega))) ?_
              refine q_q _ rfl rfl rfl (v_indexAddrB rfl Tryd.underlying22 inf62 rfl rfl hiz2) ?_
              first | refine q_q _ rfl rfl rfl (v_fieldAddr rfl Tryd.underlying62 inf29 rfl rfl rfl rfl) ?_ | refine q_q _ rfl rfl rfl (v_fieldAddrE rfl Tryd.underlying62 inf29 rfl rfl rfl rfl) ?_
              refine q_q _ rfl rfl rfl (v_assign rfl rfl) ?_
              refine q_nil ?_
              repeat (first | with_reducible refine r_then ?_ | with_reducible refine r_in_normal ?_ | with_reducible refine r_sc_normal ?_)
              obtain ⟨hq1, hq2, hq3, hq4⟩ := hg.dues iz hiz2
              unfold SodsOk at hq3
              refine r_par' 11 mixed (by kernel_rfl) (by rfl) ?_
              refine p_q _ rfl rfl rfl (fun _ _ => v_move rfl rfl) ?_
              refine p_q _ rfl rfl rfl (fun _ _ => v_move rfl rfl) ?_
              refine p_q _ rfl rfl rfl (fun _ _ => v_nilCheck rfl rfl) ?_
              first | refine p_q _ rfl rfl rfl (fun _ _ => v_fieldAddr rfl Tryd.underlying29 inf3 rfl rfl rfl rfl) ?_ | refine p_q _ rfl rfl rfl (fun _ _ => v_fieldAddrE rfl Tryd.underlying29 inf3 rfl rfl rfl rfl) ?_
              refine p_q _ rfl rfl rfl (fun _ _ => v_ld1 (v := i64 (D.dues.getD iz default).sods.lo) rfl Tryd.underlying3 rfl rfl ((flat_get (j := 2) encD_len hiz2 (by decide)).trans rfl)) ?_
              refine p_q _ rfl rfl rfl (fun _ _ => v_move rfl rfl) ?_
              refine p_q _ rfl rfl rfl (fun _ _ => v_nilCheck rfl rfl) ?_
              first | refine p_q _ rfl rfl rfl (fun _ _ => v_fieldAddr rfl Tryd.underlying29 inf3 rfl rfl rfl rfl) ?_ | refine p_q _ rfl rfl rfl (fun _ _ => v_fieldAddrE rfl Tryd.underlying29 inf3 rfl rfl rfl rfl) ?_
              refine p_q _ rfl rfl rfl (fun _ _ => v_ld1 (v := i64 (D.dues.getD iz default).sods.hi) rfl Tryd.underlying3 rfl rfl ((flat_get (j := 3) encD_len hiz2 (by decide)).trans rfl)) ?_
              refine p_q _ rfl rfl rfl (fun _ _ => v_sub rfl rfl rfl (by omega)) ?_
              first | refine p_q _ rfl rfl rfl (fun _ _ => v_max2 rfl rfl rfl) ?_ | refine p_q _ rfl rfl rfl (fun _ _ => v_max3 rfl rfl rfl rfl) ?_
              refine p_nil2 (by simp only [List.nil_append, List.cons_append]; rfl) rfl ?_
              refine f_q rfl ?_
              refine f_q rfl ?_
              refine f_q rfl ?_
              refine f_q rfl ?_
              refine f_q rfl ?_
              refine f_q rfl ?_
              refine f_q rfl ?_
              refine f_q rfl ?_
              refine f_q rfl ?_
              refine f_q rfl ?_
              refine f_q rfl ?_
              refine f_nil ?_
              refine o_q _ rfl rfl rfl (v_nilCheck rfl rfl) ?_
              first | refine o_q _ rfl rfl rfl (v_fieldAddr rfl Tryd.underlying29 inf3 rfl rfl rfl rfl) ?_ | refine o_q _ rfl rfl rfl (v_fieldAddrE rfl Tryd.underlying29 inf3 rfl rfl rfl rfl) ?_
              refine o_st rfl inf3 rfl rfl rfl rfl rfl rfl rfl (Nat.ble_eq_true_of_le (by show iz * 5 + 3 + 1 ≤ (D.dues.flatMap encD ++ zsp).length; rw [List.length_append, flat_len encD_len]; omega)) ?_
              refine o_nil ?_
              repeat (first | with_reducible refine r_then ?_ | with_reducible refine r_in_normal ?_ | with_reducible refine r_sc_normal ?_)
              first
              | (refine Imp.box_to zb ((zD D iz).dues.flatMap encD ++ zsp) (zD_dues D iz zsp (by omega)) ?_; refine Imp.sealB zb ?_; refine Imp.rowP (b := zb) (zD D iz).dues encD_len rfl ?_; refine Imp.box_to b13 (cellsD (zD D iz) (some ⟨zb, 0, none⟩) po zcap pc) (z_cells D iz _ _ _ _) ?_; exact r_here_mid () (by exact r_here (by repeat (first | exact FSub.nil | refine FSub.cons rfl ?_)) SelMC.sel SubRC.sub) trivial)
              | (refine Imp.settleZ (T := 62) (sz := 5) (enc := encD) (xs := D.dues) (.slice za D.dues.length zcap) encD_len (fun oq cq hq => ?_); cases hq; refine Imp.derive (ψ := rowD za 5 encD (zD D iz).dues) ?_ (fun V hV => by rw [z_none (by omega)]; exact hV _ (List.mem_cons_self ..)); refine Imp.box_to b13 (cellsD (zD D iz) za po zcap pc) (z_cells D iz _ _ _ _) ?_; exact r_here_mid () (by exact r_here (by repeat (first | exact FSub.nil | refine FSub.cons rfl ?_)) SelMC.sel SubRC.sub) trivial)
          ·
            first
            | (exfalso; revert hc106; decide)
            | (exfalso; omega)
            | skip
              refine r_skip ?_
              repeat (first | with_reducible refine r_then ?_ | with_reducible refine r_in_normal ?_ | with_reducible refine r_sc_normal ?_)
              first
              | (refine Imp.box_to zb ((zD D iz).dues.flatMap encD ++ zsp) (zD_dues D iz zsp (by omega)) ?_; refine Imp.sealB zb ?_; refine Imp.rowP (b := zb) (zD D iz).dues encD_len rfl ?_; refine Imp.box_to b13 (cellsD (zD D iz) (some ⟨zb, 0, none⟩) po zcap pc) (z_cells D iz _ _ _ _) ?_; exact r_here_mid () (by exact r_here (by repeat (first | exact FSub.nil | refine FSub.cons rfl ?_)) SelMC.sel SubRC.sub) trivial)
              | (refine Imp.settleZ (T := 62) (sz := 5) (enc := encD) (xs := D.dues) (.slice za D.dues.length zcap) encD_len (fun oq cq hq => ?_); cases hq; refine Imp.derive (ψ := rowD za 5 encD (zD D iz).dues) ?_ (fun V hV => by rw [z_none (by omega)]; exact hV _ (List.mem_cons_self ..)); refine Imp.box_to b13 (cellsD (zD D iz) za po zcap pc) (z_cells D iz _ _ _ _) ?_; exact r_here_mid () (by exact r_here (by repeat (first | exact FSub.nil | refine FSub.cons rfl ?_)) SelMC.sel SubRC.sub) trivial)
        ·
          intro uu hm
          refine r_seq ?_
          refine r_seq ?_
          refine r_region ?_
          first | refine o_q _ rfl rfl rfl (v_fieldAddr rfl Tryd.underlying25 inf23 rfl rfl rfl rfl) ?_ | refine o_q _ rfl rfl rfl (v_fieldAddrE rfl Tryd.underlying25 inf23 rfl rfl rfl rfl) ?_
          first | refine o_q _ rfl rfl rfl (v_ld1 rfl Tryd.underlying23 rfl rfl rfl) ?_ | refine o_q _ rfl rfl rfl (v_lf1 rfl Tryd.underlying23 rfl rfl rfl) ?_ | refine o_q _ rfl rfl rfl (v_loadE1 rfl Tryd.underlying23 rfl rfl (by omega) rfl rfl) ?_
          refine o_q _ rfl rfl rfl (v_len rfl rfl Tryd.underlying23 rfl) ?_
          refine o_q _ rfl rfl rfl (v_move rfl rfl) ?_
          refine o_nil ?_
          repeat (first | with_reducible refine r_then ?_ | with_reducible refine r_in_normal ?_ | with_reducible refine r_sc_normal ?_)
          refine r_block ?_
          refine r_loop (ι := Nat × Value × Value) (fun gh => gh.1 ≤ D.paid.length) (fun gh => [(4, pt b4 0), (9, i64 (wk : Int)), (10, i64 (dk : Int)), (11, pt b11 0), (12, pt b12 0), (13, pt b13 0), (14, pt b14 0), (15, pt b15 0), (132, i64 D.paid.length), (133, i64 (gh.1 : Int))]) (fun gh => ownL gh.2.1 54 4 encP (tP D gh.1) :: ownL gh.2.2 54 4 encP (uP D (wk : Int) gh.1) :: bx b14 25 [i64 D.people, .slice uo D.dues.length uc, gh.2.1] :: bx b15 25 [i64 D.people, .slice none 0 0, gh.2.2] :: bx b11 25 (cellsD (moreP D p0) uo xo uc xc) :: bx b12 25 (cellsD (yD D iy) uo ya uc ycap) :: bx b13 25 (cellsD (zD D iz) za po zcap pc) :: bx b4 25 (cellsD D uo po uc pc) :: M) (fun gh => rowD za 5 encD (zD D iz).dues :: rowD ya 4 encP (yD D iy).paid :: rowD xo 4 encP (D.paid ++ [p0]) :: ([rowD uo 5 encD D.dues, rowD po 4 encP D.paid, rowD (some ⟨0, 0, none⟩) 1 encE ([0, 1] : List Nat)] ++ Rf)) (fun gh => D.paid.length - gh.1) (0, .slice none 0 0, .slice none 0 0) ?_ ?_ ?_
          ·
            refine Imp.nilL 54 4 encP ?_
            refine Imp.own_to (.slice none 0 0) (tP D 0) (by unfold tP; rfl) ?_
            refine Imp.nilL 54 4 encP ?_
            refine Imp.own_to (.slice none 0 0) (uP D (wk : Int) 0) (by unfold uP; rfl) ?_
            refine Imp.box_to b11 (cellsD (moreP D p0) uo xo uc xc) (x_cells D p0 _ _ _ _) ?_
            refine Imp.box_to b14 [i64 D.people, .slice uo D.dues.length uc, .slice none 0 0] rfl ?_
            refine Imp.box_to b15 [i64 D.people, .slice none 0 0, .slice none 0 0] rfl ?_
            exact r_here (by repeat (first | exact FSub.nil | refine FSub.cons rfl ?_)) SelMC.sel SubRC.sub
          ·
            exact Nat.zero_le _
          ·
            rintro ⟨k, vt, vu⟩ hI0
            dsimp only at hI0
            dsimp only
            have hI : k ≤ D.paid.length := hI0
            have hlt := tP_len (D := D) (k := k)
            have hlu := uP_len (D := D) (w := (wk : Int)) (k := k)
            refine r_seq ?_
            refine r_region ?_
            refine o_q _ rfl rfl rfl (v_lss rfl rfl rfl) ?_
            refine o_nil ?_
            repeat (first | with_reducible refine r_then ?_ | with_reducible refine r_in_normal ?_ | with_reducible refine r_sc_normal ?_)
            refine r_seq ?_
            first | refine r_condd rfl (fun hc134 => ?_) (fun hc134 => ?_) | refine r_cond rfl (fun hc134 => ?_) (fun hc134 => ?_)
            ·
              first
              | (exfalso; revert hc134; decide)
              | (exfalso; omega)
              | skip
                refine r_skip ?_
                repeat (first | with_reducible refine r_then ?_ | with_reducible refine r_in_normal ?_ | with_reducible refine r_sc_normal ?_)
                refine r_seq ?_
                refine r_block ?_
                refine r_seq ?_
                refine r_region ?_
                refine o_q _ rfl rfl rfl (v_move rfl rfl) ?_
                refine o_q _ rfl rfl rfl (v_assign rfl rfl) ?_
                refine o_nil ?_
                repeat (first | with_reducible refine r_then ?_ | with_reducible refine r_in_normal ?_ | with_reducible refine r_sc_normal ?_)
                refine r_seq ?_
                refine r_par' 13 mixed (by kernel_rfl) (by rfl) ?_
                first | refine p_q _ rfl rfl rfl (fun _ _ => v_fieldAddr rfl Tryd.underlying25 inf23 rfl rfl rfl rfl) ?_ | refine p_q _ rfl rfl rfl (fun _ _ => v_fieldAddrE rfl Tryd.underlying25 inf23 rfl rfl rfl rfl) ?_
                first | refine p_q _ rfl rfl rfl (fun _ _ => v_ld1 rfl Tryd.underlying23 rfl rfl rfl) ?_ | refine p_q _ rfl rfl rfl (fun _ _ => v_lf1 rfl Tryd.underlying23 rfl rfl rfl) ?_ | refine p_q _ rfl rfl rfl (fun _ _ => v_loadE1 rfl Tryd.underlying23 rfl rfl (by omega) rfl rfl) ?_
                first | refine p_q _ rfl rfl rfl (fun _ _ => v_fieldAddr rfl Tryd.underlying25 inf23 rfl rfl rfl rfl) ?_ | refine p_q _ rfl rfl rfl (fun _ _ => v_fieldAddrE rfl Tryd.underlying25 inf23 rfl rfl rfl rfl) ?_
                first | refine p_q _ rfl rfl rfl (fun _ _ => v_ld1 rfl Tryd.underlying23 rfl rfl rfl) ?_ | refine p_q _ rfl rfl rfl (fun _ _ => v_lf1 rfl Tryd.underlying23 rfl rfl rfl) ?_ | refine p_q _ rfl rfl rfl (fun _ _ => v_loadE1 rfl Tryd.underlying23 rfl rfl (by omega) rfl rfl) ?_
                first | refine p_q _ rfl rfl rfl (fun _ _ => v_fieldAddr rfl Tryd.underlying25 inf23 rfl rfl rfl rfl) ?_ | refine p_q _ rfl rfl rfl (fun _ _ => v_fieldAddrE rfl Tryd.underlying25 inf23 rfl rfl rfl rfl) ?_
                first | refine p_q _ rfl rfl rfl (fun _ _ => v_ld1 rfl Tryd.underlying23 rfl rfl rfl) ?_ | refine p_q _ rfl rfl rfl (fun _ _ => v_lf1 rfl Tryd.underlying23 rfl rfl rfl) ?_ | refine p_q _ rfl rfl rfl (fun _ _ => v_loadE1 rfl Tryd.underlying23 rfl rfl (by omega) rfl rfl) ?_
                refine p_q _ rfl rfl rfl (fun _ _ => v_len rfl rfl Tryd.underlying23 rfl) ?_
                refine p_q _ rfl rfl rfl (fun _ _ => v_cast (v := i64 ((D.paid.length - 1 : Nat) : Int)) (v_sub rfl rfl rfl (by omega)) (i64c (by omega))) ?_
                refine p_q _ rfl rfl rfl (fun _ _ => v_move rfl rfl) ?_
                refine p_q _ rfl rfl rfl (fun _ _ => v_cast (v := i64 ((D.paid.length - 1 - k : Nat) : Int)) (v_sub rfl rfl rfl (by omega)) (i64c (by omega))) ?_
                first | refine p_q _ rfl rfl rfl (fun _ _ => v_indexAddrSn rfl Tryd.underlying23 inf54 rfl rfl rfl (by omega) rfl) ?_ | refine p_q _ rfl rfl rfl (fun _ _ => v_indexAddrS rfl Tryd.underlying23 inf54 rfl rfl rfl (by omega) (by omega) rfl) ?_
                refine p_q _ rfl rfl rfl (fun _ _ => v_cast (v := .agg #[i64 (D.paid.getD (D.paid.length - 1 - k) default).who, i64 (D.paid.getD (D.paid.length - 1 - k) default).day, i64 (D.paid.getD (D.paid.length - 1 - k) default).sods.lo, i64 (D.paid.getD (D.paid.length - 1 - k) default).sods.hi]) (v_loadEN rfl Tryd.underlying54 rfl inf54 rfl (by omega) rfl rfl rfl) rfl) ?_
                refine p_lit rfl Tryd.underlying23 inf54 rfl rfl rfl rfl rfl rfl rfl rfl (by repeat (first | exact trivial | refine ⟨rfl, ?_⟩)) (by rfl) ?_
                refine p_nil2 (by simp only [List.nil_append, List.cons_append]; rfl) rfl ?_
                refine f_q rfl ?_
                refine f_q rfl ?_
                refine f_q rfl ?_
                refine f_q rfl ?_
                refine f_q rfl ?_
                refine f_q rfl ?_
                refine f_q rfl ?_
                refine f_q rfl ?_
                refine f_q rfl ?_
                refine f_q rfl ?_
                refine f_q rfl ?_
                refine f_q rfl ?_
                refine f_lit rfl (fun b148 => ?_)
                refine f_nil ?_
                refine o_app1F ((D.paid.getD (D.paid.length - 1 - k) default)) rfl Tryd.underlying23 inf54 rfl (by rfl) (by rfl) rfl rfl rfl rfl rfl (by rfl) (by rfl) (by rfl) (by first | omega | (constructor <;> first | omega | decide)) (fun v149 => ?_)
                refine Imp.own_is v149 (fun hs => ?_)
                obtain ⟨oan, cpn, rfl⟩ := hs
                first | refine o_q _ rfl rfl rfl (v_fieldAddr rfl Tryd.underlying25 inf23 rfl rfl rfl rfl) ?_ | refine o_q _ rfl rfl rfl (v_fieldAddrE rfl Tryd.underlying25 inf23 rfl rfl rfl rfl) ?_
                refine o_st rfl inf23 rfl rfl rfl rfl rfl rfl rfl rfl ?_
                refine o_nil ?_
                repeat (first | with_reducible refine r_then ?_ | with_reducible refine r_in_normal ?_ | with_reducible refine r_sc_normal ?_)
                refine r_seq ?_
                refine r_region ?_
                first | refine o_q _ rfl rfl rfl (v_fieldAddr rfl Tryd.underlying25 inf23 rfl rfl rfl rfl) ?_ | refine o_q _ rfl rfl rfl (v_fieldAddrE rfl Tryd.underlying25 inf23 rfl rfl rfl rfl) ?_
                first | refine o_q _ rfl rfl rfl (v_ld1 rfl Tryd.underlying23 rfl rfl rfl) ?_ | refine o_q _ rfl rfl rfl (v_lf1 rfl Tryd.underlying23 rfl rfl rfl) ?_ | refine o_q _ rfl rfl rfl (v_loadE1 rfl Tryd.underlying23 rfl rfl (by omega) rfl rfl) ?_
                refine o_q _ rfl rfl rfl (v_move rfl rfl) ?_
                first | refine o_q _ rfl rfl rfl (v_indexAddrSn rfl Tryd.underlying23 inf54 rfl rfl rfl (by omega) rfl) ?_ | refine o_q _ rfl rfl rfl (v_indexAddrS rfl Tryd.underlying23 inf54 rfl rfl rfl (by omega) (by omega) rfl) ?_
                first | refine o_q _ rfl rfl rfl (v_fieldAddr rfl Tryd.underlying54 inf3 rfl rfl rfl rfl) ?_ | refine o_q _ rfl rfl rfl (v_fieldAddrE rfl Tryd.underlying54 inf3 rfl rfl rfl rfl) ?_
                refine o_q _ rfl rfl rfl (v_loadE1 (v := i64 (D.paid.getD k default).who) (j := 0) rfl Tryd.underlying3 rfl rfl (by omega) rfl rfl) ?_
                refine o_q _ rfl rfl rfl (v_move rfl rfl) ?_
                refine o_q _ rfl rfl rfl (v_eql rfl rfl rfl) ?_
                refine o_nil ?_
                repeat (first | with_reducible refine r_then ?_ | with_reducible refine r_in_normal ?_ | with_reducible refine r_sc_normal ?_)
                first | refine r_condd rfl (fun hc158 => ?_) (fun hc158 => ?_) | refine r_cond rfl (fun hc158 => ?_) (fun hc158 => ?_)
                ·
                  first
                  | (exfalso; revert hc158; decide)
                  | (exfalso; omega)
                  | skip
                    refine r_par' 8 mixed (by kernel_rfl) (by rfl) ?_
                    first | refine p_q _ rfl rfl rfl (fun _ _ => v_fieldAddr rfl Tryd.underlying25 inf23 rfl rfl rfl rfl) ?_ | refine p_q _ rfl rfl rfl (fun _ _ => v_fieldAddrE rfl Tryd.underlying25 inf23 rfl rfl rfl rfl) ?_
                    first | refine p_q _ rfl rfl rfl (fun _ _ => v_ld1 rfl Tryd.underlying23 rfl rfl rfl) ?_ | refine p_q _ rfl rfl rfl (fun _ _ => v_lf1 rfl Tryd.underlying23 rfl rfl rfl) ?_ | refine p_q _ rfl rfl rfl (fun _ _ => v_loadE1 rfl Tryd.underlying23 rfl rfl (by omega) rfl rfl) ?_
                    first | refine p_q _ rfl rfl rfl (fun _ _ => v_fieldAddr rfl Tryd.underlying25 inf23 rfl rfl rfl rfl) ?_ | refine p_q _ rfl rfl rfl (fun _ _ => v_fieldAddrE rfl Tryd.underlying25 inf23 rfl rfl rfl rfl) ?_
                    first | refine p_q _ rfl rfl rfl (fun _ _ => v_ld1 rfl Tryd.underlying23 rfl rfl rfl) ?_ | refine p_q _ rfl rfl rfl (fun _ _ => v_lf1 rfl Tryd.underlying23 rfl rfl rfl) ?_ | refine p_q _ rfl rfl rfl (fun _ _ => v_loadE1 rfl Tryd.underlying23 rfl rfl (by omega) rfl rfl) ?_
                    refine p_q _ rfl rfl rfl (fun _ _ => v_move rfl rfl) ?_
                    first | refine p_q _ rfl rfl rfl (fun _ _ => v_indexAddrSn rfl Tryd.underlying23 inf54 rfl rfl rfl (by omega) rfl) ?_ | refine p_q _ rfl rfl rfl (fun _ _ => v_indexAddrS rfl Tryd.underlying23 inf54 rfl rfl rfl (by omega) (by omega) rfl) ?_
                    refine p_q _ rfl rfl rfl (fun _ _ => v_cast (v := .agg #[i64 (D.paid.getD k default).who, i64 (D.paid.getD k default).day, i64 (D.paid.getD k default).sods.lo, i64 (D.paid.getD k default).sods.hi]) (v_loadEN rfl Tryd.underlying54 rfl inf54 rfl (by omega) rfl rfl rfl) rfl) ?_
                    refine p_lit rfl Tryd.underlying23 inf54 rfl rfl rfl rfl rfl rfl rfl rfl (by repeat (first | exact trivial | refine ⟨rfl, ?_⟩)) (by rfl) ?_
                    refine p_nil2 (by simp only [List.nil_append, List.cons_append]; rfl) rfl ?_
                    refine f_q rfl ?_
                    refine f_q rfl ?_
                    refine f_q rfl ?_
                    refine f_q rfl ?_
                    refine f_q rfl ?_
                    refine f_q rfl ?_
                    refine f_q rfl ?_
                    refine f_lit rfl (fun b166 => ?_)
                    refine f_nil ?_
                    refine o_app1F ((D.paid.getD k default)) rfl Tryd.underlying23 inf54 rfl (by rfl) (by rfl) rfl rfl rfl rfl rfl (by rfl) (by rfl) (by rfl) (by first | omega | (constructor <;> first | omega | decide)) (fun v167 => ?_)
                    refine Imp.own_is v167 (fun hs => ?_)
                    obtain ⟨oau, cpu, rfl⟩ := hs
                    first | refine o_q _ rfl rfl rfl (v_fieldAddr rfl Tryd.underlying25 inf23 rfl rfl rfl rfl) ?_ | refine o_q _ rfl rfl rfl (v_fieldAddrE rfl Tryd.underlying25 inf23 rfl rfl rfl rfl) ?_
                    refine o_st rfl inf23 rfl rfl rfl rfl rfl rfl rfl rfl ?_
                    refine o_nil ?_
                    repeat (first | with_reducible refine r_then ?_ | with_reducible refine r_in_normal ?_ | with_reducible refine r_sc_normal ?_)
                    refine r_region ?_
                    refine o_q _ rfl rfl rfl (v_add rfl rfl rfl (by omega)) ?_
                    refine o_q _ rfl rfl rfl (v_move rfl rfl) ?_
                    refine o_nil ?_
                    repeat (first | with_reducible refine r_then ?_ | with_reducible refine r_in_normal ?_ | with_reducible refine r_sc_normal ?_)
                    first
                    | exact r_next ((k + 1, .slice oan (tP D k ++ [(D.paid.getD (D.paid.length - 1 - k) default)]).length cpn, .slice oau (uP D (wk : Int) k ++ [(D.paid.getD k default)]).length cpu)) (by refine Imp.own_to (.slice oan (tP D k ++ [(D.paid.getD (D.paid.length - 1 - k) default)]).length cpn) (tP D (k + 1)) (tP_s (by omega)) ?_; refine Imp.own_to (.slice oau (uP D (wk : Int) k ++ [(D.paid.getD k default)]).length cpu) (uP D (wk : Int) (k + 1)) (uP_y (by omega) (by omega)) ?_; refine Imp.box_to b14 [i64 D.people, .slice uo D.dues.length uc, .slice oan (tP D k ++ [(D.paid.getD (D.paid.length - 1 - k) default)]).length cpn] rfl ?_; refine Imp.box_to b15 [i64 D.people, .slice none 0 0, .slice oau (uP D (wk : Int) k ++ [(D.paid.getD k default)]).length cpu] rfl ?_; exact r_here (by repeat (first | exact FSub.nil | refine FSub.cons rfl ?_)) SelMC.sel SubRC.sub) (by first | omega | (show _ + 1 ≤ _; omega)) (by first | omega | (show _ - (_ + 1) < _ - _; omega))
                    | exact r_next ((k + 1, .slice oan (tP D k ++ [(D.paid.getD (D.paid.length - 1 - k) default)]).length cpn, vu)) (by refine Imp.own_to (.slice oan (tP D k ++ [(D.paid.getD (D.paid.length - 1 - k) default)]).length cpn) (tP D (k + 1)) (tP_s (by omega)) ?_; refine Imp.own_to vu (uP D (wk : Int) (k + 1)) (uP_n (by omega) (by omega)) ?_; refine Imp.box_to b14 [i64 D.people, .slice uo D.dues.length uc, .slice oan (tP D k ++ [(D.paid.getD (D.paid.length - 1 - k) default)]).length cpn] rfl ?_; exact r_here (by repeat (first | exact FSub.nil | refine FSub.cons rfl ?_)) SelMC.sel SubRC.sub) (by first | omega | (show _ + 1 ≤ _; omega)) (by first | omega | (show _ - (_ + 1) < _ - _; omega))
                ·
                  first
                  | (exfalso; revert hc158; decide)
                  | (exfalso; omega)
                  | skip
                    refine r_skip ?_
                    repeat (first | with_reducible refine r_then ?_ | with_reducible refine r_in_normal ?_ | with_reducible refine r_sc_normal ?_)
                    refine r_region ?_
                    refine o_q _ rfl rfl rfl (v_add rfl rfl rfl (by omega)) ?_
                    refine o_q _ rfl rfl rfl (v_move rfl rfl) ?_
                    refine o_nil ?_
                    repeat (first | with_reducible refine r_then ?_ | with_reducible refine r_in_normal ?_ | with_reducible refine r_sc_normal ?_)
                    first
                    | exact r_next ((k + 1, .slice oan (tP D k ++ [(D.paid.getD (D.paid.length - 1 - k) default)]).length cpn, .slice oau (uP D (wk : Int) k ++ [(D.paid.getD k default)]).length cpu)) (by refine Imp.own_to (.slice oan (tP D k ++ [(D.paid.getD (D.paid.length - 1 - k) default)]).length cpn) (tP D (k + 1)) (tP_s (by omega)) ?_; refine Imp.own_to (.slice oau (uP D (wk : Int) k ++ [(D.paid.getD k default)]).length cpu) (uP D (wk : Int) (k + 1)) (uP_y (by omega) (by omega)) ?_; refine Imp.box_to b14 [i64 D.people, .slice uo D.dues.length uc, .slice oan (tP D k ++ [(D.paid.getD (D.paid.length - 1 - k) default)]).length cpn] rfl ?_; refine Imp.box_to b15 [i64 D.people, .slice none 0 0, .slice oau (uP D (wk : Int) k ++ [(D.paid.getD k default)]).length cpu] rfl ?_; exact r_here (by repeat (first | exact FSub.nil | refine FSub.cons rfl ?_)) SelMC.sel SubRC.sub) (by first | omega | (show _ + 1 ≤ _; omega)) (by first | omega | (show _ - (_ + 1) < _ - _; omega))
                    | exact r_next ((k + 1, .slice oan (tP D k ++ [(D.paid.getD (D.paid.length - 1 - k) default)]).length cpn, vu)) (by refine Imp.own_to (.slice oan (tP D k ++ [(D.paid.getD (D.paid.length - 1 - k) default)]).length cpn) (tP D (k + 1)) (tP_s (by omega)) ?_; refine Imp.own_to vu (uP D (wk : Int) (k + 1)) (uP_n (by omega) (by omega)) ?_; refine Imp.box_to b14 [i64 D.people, .slice uo D.dues.length uc, .slice oan (tP D k ++ [(D.paid.getD (D.paid.length - 1 - k) default)]).length cpn] rfl ?_; exact r_here (by repeat (first | exact FSub.nil | refine FSub.cons rfl ?_)) SelMC.sel SubRC.sub) (by first | omega | (show _ + 1 ≤ _; omega)) (by first | omega | (show _ - (_ + 1) < _ - _; omega))
            ·
              first
              | (exfalso; revert hc134; decide)
              | (exfalso; omega)
              | skip
                refine r_exit ?_
                repeat (first | with_reducible refine r_then_exit ?_ | with_reducible refine r_sc_exit ?_ | with_reducible refine r_in_here ?_ | (with_reducible refine r_in_past (by decide) ?_) | with_reducible refine r_then ?_ | with_reducible refine r_in_normal ?_ | with_reducible refine r_sc_normal ?_)
                refine r_seq ?_
                refine r_seq ?_
                obtain rfl : k = D.paid.length := by omega
                refine Imp.settleS vt encP_len (fun ta tcap hv => ?_)
                subst hv
                refine Imp.settleS vu encP_len (fun va vcap hv => ?_)
                subst hv
                refine r_region ?_
                first | refine o_q _ rfl rfl rfl (v_fieldAddr rfl Tryd.underlying25 inf22 rfl rfl rfl rfl) ?_ | refine o_q _ rfl rfl rfl (v_fieldAddrE rfl Tryd.underlying25 inf22 rfl rfl rfl rfl) ?_
                first | refine o_q _ rfl rfl rfl (v_ld1 rfl Tryd.underlying22 rfl rfl rfl) ?_ | refine o_q _ rfl rfl rfl (v_lf1 rfl Tryd.underlying22 rfl rfl rfl) ?_ | refine o_q _ rfl rfl rfl (v_loadE1 rfl Tryd.underlying22 rfl rfl (by omega) rfl rfl) ?_
                refine o_q _ rfl rfl rfl (v_len rfl rfl Tryd.underlying22 rfl) ?_
                refine o_q _ rfl rfl rfl (v_move rfl rfl) ?_
                refine o_nil ?_
                repeat (first | with_reducible refine r_then ?_ | with_reducible refine r_in_normal ?_ | with_reducible refine r_sc_normal ?_)
                refine r_block ?_
                refine r_loop (ι := Nat × Value) (fun gh => gh.1 ≤ D.dues.length) (fun gh => [(4, pt b4 0), (9, i64 (wk : Int)), (10, i64 (dk : Int)), (11, pt b11 0), (12, pt b12 0), (13, pt b13 0), (14, pt b14 0), (15, pt b15 0), (172, i64 D.dues.length), (173, i64 (gh.1 : Int))]) (fun gh => ownL gh.2 62 5 encD (uU D (wk : Int) gh.1) :: bx b14 25 [i64 D.people, .slice uo D.dues.length uc, .slice ta (tP D D.paid.length).length tcap] :: bx b15 25 [i64 D.people, gh.2, .slice va (uP D (wk : Int) D.paid.length).length vcap] :: bx b11 25 (cellsD (moreP D p0) uo xo uc xc) :: bx b12 25 (cellsD (yD D iy) uo ya uc ycap) :: bx b13 25 (cellsD (zD D iz) za po zcap pc) :: bx b4 25 (cellsD D uo po uc pc) :: M) (fun gh => rowD va 4 encP (uP D (wk : Int) D.paid.length) :: rowD ta 4 encP (tP D D.paid.length) :: rowD za 5 encD (zD D iz).dues :: rowD ya 4 encP (yD D iy).paid :: rowD xo 4 encP (D.paid ++ [p0]) :: ([rowD uo 5 encD D.dues, rowD po 4 encP D.paid, rowD (some ⟨0, 0, none⟩) 1 encE ([0, 1] : List Nat)] ++ Rf)) (fun gh => D.dues.length - gh.1) (0, .slice none 0 0) ?_ ?_ ?_
                ·
                  refine Imp.nilL 62 5 encD ?_
                  refine Imp.own_to (.slice none 0 0) (uU D (wk : Int) 0) (by unfold uU; rfl) ?_
                  refine Imp.box_to b15 [i64 D.people, .slice none 0 0, .slice va (uP D (wk : Int) D.paid.length).length vcap] rfl ?_
                  exact r_here (by repeat (first | exact FSub.nil | refine FSub.cons rfl ?_)) SelMC.sel SubRC.sub
                ·
                  exact Nat.zero_le _
                ·
                  rintro ⟨k, vu⟩ hI1
                  dsimp only at hI1
                  dsimp only
                  have hI : k ≤ D.dues.length := hI1
                  have hlu := uU_len (D := D) (w := (wk : Int)) (k := k)
                  refine r_seq ?_
                  refine r_region ?_
                  refine o_q _ rfl rfl rfl (v_lss rfl rfl rfl) ?_
                  refine o_nil ?_
                  repeat (first | with_reducible refine r_then ?_ | with_reducible refine r_in_normal ?_ | with_reducible refine r_sc_normal ?_)
                  refine r_seq ?_
                  first | refine r_condd rfl (fun hc174 => ?_) (fun hc174 => ?_) | refine r_cond rfl (fun hc174 => ?_) (fun hc174 => ?_)
                  ·
                    first
                    | (exfalso; revert hc174; decide)
                    | (exfalso; omega)
                    | skip
                      refine r_skip ?_
                      repeat (first | with_reducible refine r_then ?_ | with_reducible refine r_in_normal ?_ | with_reducible refine r_sc_normal ?_)
                      refine r_seq ?_
                      refine r_block ?_
                      refine r_seq ?_
                      refine r_region ?_
                      refine o_q _ rfl rfl rfl (v_move rfl rfl) ?_
                      refine o_q _ rfl rfl rfl (v_assign rfl rfl) ?_
                      refine o_nil ?_
                      repeat (first | with_reducible refine r_then ?_ | with_reducible refine r_in_normal ?_ | with_reducible refine r_sc_normal ?_)
                      refine r_seq ?_
                      refine r_region ?_
                      first | refine o_q _ rfl rfl rfl (v_fieldAddr rfl Tryd.underlying25 inf22 rfl rfl rfl rfl) ?_ | refine o_q _ rfl rfl rfl (v_fieldAddrE rfl Tryd.underlying25 inf22 rfl rfl rfl rfl) ?_
                      first | refine o_q _ rfl rfl rfl (v_ld1 rfl Tryd.underlying22 rfl rfl rfl) ?_ | refine o_q _ rfl rfl rfl (v_lf1 rfl Tryd.underlying22 rfl rfl rfl) ?_ | refine o_q _ rfl rfl rfl (v_loadE1 rfl Tryd.underlying22 rfl rfl (by omega) rfl rfl) ?_
                      refine o_q _ rfl rfl rfl (v_move rfl rfl) ?_
                      first | refine o_q _ rfl rfl rfl (v_indexAddrSn rfl Tryd.underlying22 inf62 rfl rfl rfl (by omega) rfl) ?_ | refine o_q _ rfl rfl rfl (v_indexAddrS rfl Tryd.underlying22 inf62 rfl rfl rfl (by omega) (by omega) rfl) ?_
                      first | refine o_q _ rfl rfl rfl (v_fieldAddr rfl Tryd.underlying62 inf3 rfl rfl rfl rfl) ?_ | refine o_q _ rfl rfl rfl (v_fieldAddrE rfl Tryd.underlying62 inf3 rfl rfl rfl rfl) ?_
                      refine o_q _ rfl rfl rfl (v_loadE1 (v := i64 (D.dues.getD k default).who) (j := 0) rfl Tryd.underlying3 rfl rfl (by omega) rfl rfl) ?_
                      refine o_q _ rfl rfl rfl (v_move rfl rfl) ?_
                      refine o_q _ rfl rfl rfl (v_eql rfl rfl rfl) ?_
                      refine o_nil ?_
                      repeat (first | with_reducible refine r_then ?_ | with_reducible refine r_in_normal ?_ | with_reducible refine r_sc_normal ?_)
                      first | refine r_condd rfl (fun hc183 => ?_) (fun hc183 => ?_) | refine r_cond rfl (fun hc183 => ?_) (fun hc183 => ?_)
                      ·
                        first
                        | (exfalso; revert hc183; decide)
                        | (exfalso; omega)
                        | skip
                          refine r_par' 8 mixed (by kernel_rfl) (by rfl) ?_
                          first | refine p_q _ rfl rfl rfl (fun _ _ => v_fieldAddr rfl Tryd.underlying25 inf22 rfl rfl rfl rfl) ?_ | refine p_q _ rfl rfl rfl (fun _ _ => v_fieldAddrE rfl Tryd.underlying25 inf22 rfl rfl rfl rfl) ?_
                          first | refine p_q _ rfl rfl rfl (fun _ _ => v_ld1 rfl Tryd.underlying22 rfl rfl rfl) ?_ | refine p_q _ rfl rfl rfl (fun _ _ => v_lf1 rfl Tryd.underlying22 rfl rfl rfl) ?_ | refine p_q _ rfl rfl rfl (fun _ _ => v_loadE1 rfl Tryd.underlying22 rfl rfl (by omega) rfl rfl) ?_
                          first | refine p_q _ rfl rfl rfl (fun _ _ => v_fieldAddr rfl Tryd.underlying25 inf22 rfl rfl rfl rfl) ?_ | refine p_q _ rfl rfl rfl (fun _ _ => v_fieldAddrE rfl Tryd.underlying25 inf22 rfl rfl rfl rfl) ?_
                          first | refine p_q _ rfl rfl rfl (fun _ _ => v_ld1 rfl Tryd.underlying22 rfl rfl rfl) ?_ | refine p_q _ rfl rfl rfl (fun _ _ => v_lf1 rfl Tryd.underlying22 rfl rfl rfl) ?_ | refine p_q _ rfl rfl rfl (fun _ _ => v_loadE1 rfl Tryd.underlying22 rfl rfl (by omega) rfl rfl) ?_
                          refine p_q _ rfl rfl rfl (fun _ _ => v_move rfl rfl) ?_
                          first | refine p_q _ rfl rfl rfl (fun _ _ => v_indexAddrSn rfl Tryd.underlying22 inf62 rfl rfl rfl (by omega) rfl) ?_ | refine p_q _ rfl rfl rfl (fun _ _ => v_indexAddrS rfl Tryd.underlying22 inf62 rfl rfl rfl (by omega) (by omega) rfl) ?_
                          refine p_q _ rfl rfl rfl (fun _ _ => v_cast (v := .agg #[i64 (D.dues.getD k default).who, i64 (D.dues.getD k default).day, i64 (D.dues.getD k default).sods.lo, i64 (D.dues.getD k default).sods.hi, i64 (D.dues.getD k default).late]) (v_loadEN rfl Tryd.underlying62 rfl inf62 rfl (by omega) rfl rfl rfl) rfl) ?_
                          refine p_lit rfl Tryd.underlying22 inf62 rfl rfl rfl rfl rfl rfl rfl rfl (by repeat (first | exact trivial | refine ⟨rfl, ?_⟩)) (by rfl) ?_
                          refine p_nil2 (by simp only [List.nil_append, List.cons_append]; rfl) rfl ?_
                          refine f_q rfl ?_
                          refine f_q rfl ?_
                          refine f_q rfl ?_
                          refine f_q rfl ?_
                          refine f_q rfl ?_
                          refine f_q rfl ?_
                          refine f_q rfl ?_
                          refine f_lit rfl (fun b191 => ?_)
                          refine f_nil ?_
                          refine o_app1F ((D.dues.getD k default)) rfl Tryd.underlying22 inf62 rfl (by rfl) (by rfl) rfl rfl rfl rfl rfl (by rfl) (by rfl) (by rfl) (by first | omega | (constructor <;> first | omega | decide)) (fun v192 => ?_)
                          refine Imp.own_is v192 (fun hs => ?_)
                          obtain ⟨oau, cpu, rfl⟩ := hs
                          first | refine o_q _ rfl rfl rfl (v_fieldAddr rfl Tryd.underlying25 inf22 rfl rfl rfl rfl) ?_ | refine o_q _ rfl rfl rfl (v_fieldAddrE rfl Tryd.underlying25 inf22 rfl rfl rfl rfl) ?_
                          refine o_st rfl inf22 rfl rfl rfl rfl rfl rfl rfl rfl ?_
                          refine o_nil ?_
                          repeat (first | with_reducible refine r_then ?_ | with_reducible refine r_in_normal ?_ | with_reducible refine r_sc_normal ?_)
                          refine r_region ?_
                          refine o_q _ rfl rfl rfl (v_add rfl rfl rfl (by omega)) ?_
                          refine o_q _ rfl rfl rfl (v_move rfl rfl) ?_
                          refine o_nil ?_
                          repeat (first | with_reducible refine r_then ?_ | with_reducible refine r_in_normal ?_ | with_reducible refine r_sc_normal ?_)
                          first
                          | exact r_next ((k + 1, .slice oau (uU D (wk : Int) k ++ [(D.dues.getD k default)]).length cpu)) (by refine Imp.own_to (.slice oau (uU D (wk : Int) k ++ [(D.dues.getD k default)]).length cpu) (uU D (wk : Int) (k + 1)) (uU_y (by omega) (by omega)) ?_; refine Imp.box_to b15 [i64 D.people, .slice oau (uU D (wk : Int) k ++ [(D.dues.getD k default)]).length cpu, .slice va (uP D (wk : Int) D.paid.length).length vcap] rfl ?_; exact r_here (by repeat (first | exact FSub.nil | refine FSub.cons rfl ?_)) SelMC.sel SubRC.sub) (by first | omega | (show _ + 1 ≤ _; omega)) (by first | omega | (show _ - (_ + 1) < _ - _; omega))
                          | exact r_next ((k + 1, vu)) (by refine Imp.own_to vu (uU D (wk : Int) (k + 1)) (uU_n (by omega) (by omega)) ?_; exact r_here (by repeat (first | exact FSub.nil | refine FSub.cons rfl ?_)) SelMC.sel SubRC.sub) (by first | omega | (show _ + 1 ≤ _; omega)) (by first | omega | (show _ - (_ + 1) < _ - _; omega))
                      ·
                        first
                        | (exfalso; revert hc183; decide)
                        | (exfalso; omega)
                        | skip
                          refine r_skip ?_
                          repeat (first | with_reducible refine r_then ?_ | with_reducible refine r_in_normal ?_ | with_reducible refine r_sc_normal ?_)
                          refine r_region ?_
                          refine o_q _ rfl rfl rfl (v_add rfl rfl rfl (by omega)) ?_
                          refine o_q _ rfl rfl rfl (v_move rfl rfl) ?_
                          refine o_nil ?_
                          repeat (first | with_reducible refine r_then ?_ | with_reducible refine r_in_normal ?_ | with_reducible refine r_sc_normal ?_)
                          first
                          | exact r_next ((k + 1, .slice oau (uU D (wk : Int) k ++ [(D.dues.getD k default)]).length cpu)) (by refine Imp.own_to (.slice oau (uU D (wk : Int) k ++ [(D.dues.getD k default)]).length cpu) (uU D (wk : Int) (k + 1)) (uU_y (by omega) (by omega)) ?_; refine Imp.box_to b15 [i64 D.people, .slice oau (uU D (wk : Int) k ++ [(D.dues.getD k default)]).length cpu, .slice va (uP D (wk : Int) D.paid.length).length vcap] rfl ?_; exact r_here (by repeat (first | exact FSub.nil | refine FSub.cons rfl ?_)) SelMC.sel SubRC.sub) (by first | omega | (show _ + 1 ≤ _; omega)) (by first | omega | (show _ - (_ + 1) < _ - _; omega))
                          | exact r_next ((k + 1, vu)) (by refine Imp.own_to vu (uU D (wk : Int) (k + 1)) (uU_n (by omega) (by omega)) ?_; exact r_here (by repeat (first | exact FSub.nil | refine FSub.cons rfl ?_)) SelMC.sel SubRC.sub) (by first | omega | (show _ + 1 ≤ _; omega)) (by first | omega | (show _ - (_ + 1) < _ - _; omega))
                  ·
                    first
                    | (exfalso; revert hc174; decide)
                    | (exfalso; omega)
                    | skip
                      refine r_exit ?_
                      repeat (first | with_reducible refine r_then_exit ?_ | with_reducible refine r_sc_exit ?_ | with_reducible refine r_in_here ?_ | (with_reducible refine r_in_past (by decide) ?_) | with_reducible refine r_then ?_ | with_reducible refine r_in_normal ?_ | with_reducible refine r_sc_normal ?_)
                      refine r_seq ?_
                      obtain rfl : k = D.dues.length := by omega
                      refine Imp.settleS vu encD_len (fun ua ucap hv => ?_)
                      subst hv
                      refine Imp.box_to b14 (cellsD (tD D) uo ta uc tcap) (t_cells D _ _ _ _) ?_
                      refine Imp.box_to b15 (cellsD (uD D (wk : Int)) ua va ucap vcap) (u_cells D _ _ _ _ _) ?_
                      refine r_par' 8 mixed (by kernel_rfl) (by rfl) ?_
                      refine p_lit0 rfl Tryd.underlying22 inf62 rfl rfl rfl ?_
                      first | refine p_q _ rfl rfl rfl (fun _ _ => v_fieldAddr rfl Tryd.underlying25 inf22 rfl rfl rfl rfl) ?_ | refine p_q _ rfl rfl rfl (fun _ _ => v_fieldAddrE rfl Tryd.underlying25 inf22 rfl rfl rfl rfl) ?_
                      first | refine p_q _ rfl rfl rfl (fun _ _ => v_ld1 rfl Tryd.underlying22 rfl rfl rfl) ?_ | refine p_q _ rfl rfl rfl (fun _ _ => v_lf1 rfl Tryd.underlying22 rfl rfl rfl) ?_ | refine p_q _ rfl rfl rfl (fun _ _ => v_loadE1 rfl Tryd.underlying22 rfl rfl (by omega) rfl rfl) ?_
                      refine p_acc (by simp only [List.nil_append, List.cons_append]; rfl) ?_
                      refine p_appN (sz := 5) 0 rfl rfl rfl (by kernel_rfl) rfl rfl rfl rfl Tryd.underlying22 inf62 rfl rfl rfl encD_len (fun _ => rfl) ⟨by omega, by decide⟩ ?_
                      refine p_lit0 rfl Tryd.underlying23 inf54 rfl rfl rfl ?_
                      first | refine p_q _ rfl rfl rfl (fun _ _ => v_fieldAddr rfl Tryd.underlying25 inf23 rfl rfl rfl rfl) ?_ | refine p_q _ rfl rfl rfl (fun _ _ => v_fieldAddrE rfl Tryd.underlying25 inf23 rfl rfl rfl rfl) ?_
                      first | refine p_q _ rfl rfl rfl (fun _ _ => v_ld1 rfl Tryd.underlying23 rfl rfl rfl) ?_ | refine p_q _ rfl rfl rfl (fun _ _ => v_lf1 rfl Tryd.underlying23 rfl rfl rfl) ?_ | refine p_q _ rfl rfl rfl (fun _ _ => v_loadE1 rfl Tryd.underlying23 rfl rfl (by omega) rfl rfl) ?_
                      refine p_acc (by simp only [List.nil_append, List.cons_append]; rfl) ?_
                      refine p_appN (sz := 4) 4 rfl rfl rfl (by kernel_rfl) rfl rfl rfl rfl Tryd.underlying23 inf54 rfl rfl rfl encP_len (fun _ => rfl) ⟨by omega, by decide⟩ ?_
                      refine p_nil2 (by simp only [List.nil_append, List.cons_append]; rfl) rfl ?_
                      refine f_l0 rfl (fun b195 => ?_)
                      refine f_q rfl ?_
                      refine f_q rfl ?_
                      refine f_oz rfl (fun v198 => ?_)
                      refine f_l0 rfl (fun b199 => ?_)
                      refine f_q rfl ?_
                      refine f_q rfl ?_
                      refine f_oz rfl (fun v202 => ?_)
                      refine f_nil ?_
                      refine Imp.settleZ (T := 62) (sz := 5) (enc := encD) (xs := D.dues) v198 encD_len (fun o20 c20 hv => ?_)
                      subst hv
                      refine Imp.settleZ (T := 54) (sz := 4) (enc := encP) (xs := D.paid) v202 encP_len (fun o21 c21 hv => ?_)
                      subst hv
                      refine o_q _ rfl rfl rfl (v_assign rfl rfl) ?_
                      refine o_q _ rfl rfl rfl (v_assign rfl rfl) ?_
                      refine o_nil ?_
                      repeat (first | with_reducible refine r_then ?_ | with_reducible refine r_in_normal ?_ | with_reducible refine r_sc_normal ?_)
                      refine r_seq ?_
                      refine r_region ?_
                      first | refine o_q _ rfl rfl rfl (v_ldW rfl Tryd.underlying25 rfl inf25 rfl rfl) ?_ | refine o_q _ rfl rfl rfl (v_lfW rfl Tryd.underlying25 rfl inf25 rfl rfl) ?_ | refine o_q _ rfl rfl rfl (v_lfN rfl Tryd.underlying25 rfl inf25 rfl rfl rfl) ?_ | refine o_q _ rfl rfl rfl (v_ldN rfl Tryd.underlying25 rfl inf25 rfl rfl rfl) ?_ | refine o_q _ rfl rfl rfl (v_loadEN rfl Tryd.underlying25 rfl inf25 rfl (by omega) rfl rfl rfl) ?_
                      refine o_q _ rfl rfl rfl (v_move rfl rfl) ?_
                      refine o_q _ rfl rfl rfl (v_move rfl rfl) ?_
                      refine o_q _ rfl rfl rfl (v_cast (v := .tuple #[vS (leftT D (wk : Int) dk), i64 0]) (OpQ.fn (left14_v D uo po uc pc (wk : Int) (dk : Int) hl1 hl2) rfl rfl SubRC.sub) (by rw [leftB_ok hg (w := wk) (d := dk) (by omega) (by omega)]; try rfl)) ?_
                      refine o_q _ rfl rfl rfl (v_move rfl rfl) ?_
                      refine o_q _ rfl rfl rfl (v_extract rfl rfl rfl) ?_
                      refine o_q _ rfl rfl rfl (v_extract rfl rfl rfl) ?_
                      refine o_alloc rfl inf29 rfl rfl rfl rfl rfl (fun b22 => ?_)
                      refine o_st rfl inf29 rfl rfl rfl rfl rfl rfl rfl rfl ?_
                      refine o_q _ rfl rfl rfl (v_assign rfl rfl) ?_
                      refine o_nil ?_
                      repeat (first | with_reducible refine r_then ?_ | with_reducible refine r_in_normal ?_ | with_reducible refine r_sc_normal ?_)
                      refine r_seq ?_
                      refine r_region ?_
                      first | refine o_q _ rfl rfl rfl (v_ldW rfl Tryd.underlying25 rfl inf25 rfl rfl) ?_ | refine o_q _ rfl rfl rfl (v_lfW rfl Tryd.underlying25 rfl inf25 rfl rfl) ?_ | refine o_q _ rfl rfl rfl (v_lfN rfl Tryd.underlying25 rfl inf25 rfl rfl rfl) ?_ | refine o_q _ rfl rfl rfl (v_ldN rfl Tryd.underlying25 rfl inf25 rfl rfl rfl) ?_ | refine o_q _ rfl rfl rfl (v_loadEN rfl Tryd.underlying25 rfl inf25 rfl (by omega) rfl rfl rfl) ?_
                      refine o_q _ rfl rfl rfl (v_move rfl rfl) ?_
                      refine o_q _ rfl rfl rfl (v_move rfl rfl) ?_
                      refine o_q _ rfl rfl rfl (v_cast (v := .tuple #[vS (aheadT D (wk : Int) dk), i64 0]) (OpQ.fn (ahead16_v D uo po uc pc (wk : Int) (dk : Int) hl1 hl2) rfl rfl SubRC.sub) (by rw [aheadB_ok hg (w := wk) (d := dk) (by omega) (by omega)]; try rfl)) ?_
                      refine o_q _ rfl rfl rfl (v_move rfl rfl) ?_
                      refine o_q _ rfl rfl rfl (v_extract rfl rfl rfl) ?_
                      refine o_q _ rfl rfl rfl (v_extract rfl rfl rfl) ?_
                      refine o_alloc rfl inf29 rfl rfl rfl rfl rfl (fun b24 => ?_)
                      refine o_st rfl inf29 rfl rfl rfl rfl rfl rfl rfl rfl ?_
                      refine o_q _ rfl rfl rfl (v_assign rfl rfl) ?_
                      refine o_nil ?_
                      repeat (first | with_reducible refine r_then ?_ | with_reducible refine r_in_normal ?_ | with_reducible refine r_sc_normal ?_)
                      refine r_seq ?_
                      refine r_region ?_
                      first | refine o_q _ rfl rfl rfl (v_ldW rfl Tryd.underlying25 rfl inf25 rfl rfl) ?_ | refine o_q _ rfl rfl rfl (v_lfW rfl Tryd.underlying25 rfl inf25 rfl rfl) ?_ | refine o_q _ rfl rfl rfl (v_lfN rfl Tryd.underlying25 rfl inf25 rfl rfl rfl) ?_ | refine o_q _ rfl rfl rfl (v_ldN rfl Tryd.underlying25 rfl inf25 rfl rfl rfl) ?_ | refine o_q _ rfl rfl rfl (v_loadEN rfl Tryd.underlying25 rfl inf25 rfl (by omega) rfl rfl rfl) ?_
                      refine o_q _ rfl rfl rfl (v_move rfl rfl) ?_
                      refine o_q _ rfl rfl rfl (v_move rfl rfl) ?_
                      refine o_q _ rfl rfl rfl (v_cast (v := .tuple #[i64 (needT D (wk : Int) dk), i64 0]) (OpQ.fn (need22_v D uo po uc pc (wk : Int) (dk : Int) hl1 hl2) rfl rfl SubRC.sub) (by rw [needB_ok hg (w := wk) (d := dk) (by omega) (by omega)]; try rfl)) ?_
                      refine o_q _ rfl rfl rfl (v_move rfl rfl) ?_
                      refine o_q _ rfl rfl rfl (v_extract rfl rfl rfl) ?_
                      refine o_q _ rfl rfl rfl (v_extract rfl rfl rfl) ?_
                      refine o_q _ rfl rfl rfl (v_assign rfl rfl) ?_
                      refine o_q _ rfl rfl rfl (v_assign rfl rfl) ?_
                      refine o_nil ?_
                      repeat (first | with_reducible refine r_then ?_ | with_reducible refine r_in_normal ?_ | with_reducible refine r_sc_normal ?_)
                      refine r_seq ?_
                      refine r_seq ?_
                      refine r_region ?_
                      refine o_q _ rfl rfl rfl (v_move rfl rfl) ?_
                      first | refine o_q _ rfl rfl rfl (v_true (v_neq rfl rfl rfl) (by omega)) ?_ | refine o_q _ rfl rfl rfl (v_false (v_neq rfl rfl rfl) (by omega)) ?_ | refine o_test rfl rfl rfl (v_neq rfl rfl rfl) (fun h225 => ?_) (fun h225 => ?_)
                      all_goals
                        refine o_q _ rfl rfl rfl (v_move rfl rfl) ?_
                        first | refine o_gn rfl rfl rfl rfl ?_ | refine o_g _ rfl rfl rfl rfl (v_move rfl rfl) ?_
                        first | refine o_gn rfl rfl rfl rfl ?_ | refine o_g _ rfl rfl rfl rfl (v_true (v_neq rfl rfl rfl) (by omega)) ?_ | refine o_g _ rfl rfl rfl rfl (v_false (v_neq rfl rfl rfl) (by omega)) ?_ | refine o_gtest rfl rfl rfl rfl (v_neq rfl rfl rfl) (fun h228 => ?_) (fun h228 => ?_)
                        all_goals
                          first | refine o_q _ rfl rfl rfl (v_pick_t rfl rfl rfl) ?_ | refine o_q _ rfl rfl rfl (v_pick_f rfl rfl rfl) ?_
                          refine o_q _ rfl rfl rfl (v_move rfl rfl) ?_
                          first | refine o_gn rfl rfl rfl rfl ?_ | refine o_g _ rfl rfl rfl rfl (v_move rfl rfl) ?_
                          first | refine o_gn rfl rfl rfl rfl ?_ | refine o_g _ rfl rfl rfl rfl (v_true (v_neq rfl rfl rfl) (by omega)) ?_ | refine o_g _ rfl rfl rfl rfl (v_false (v_neq rfl rfl rfl) (by omega)) ?_ | refine o_gtest rfl rfl rfl rfl (v_neq rfl rfl rfl) (fun h232 => ?_) (fun h232 => ?_)
                          all_goals
                            first | refine o_q _ rfl rfl rfl (v_pick_t rfl rfl rfl) ?_ | refine o_q _ rfl rfl rfl (v_pick_f rfl rfl rfl) ?_
                            refine o_nil ?_
                            repeat (first | with_reducible refine r_then ?_ | with_reducible refine r_in_normal ?_ | with_reducible refine r_sc_normal ?_)
                            first | refine r_condd rfl (fun hc233 => ?_) (fun hc233 => ?_) | refine r_cond rfl (fun hc233 => ?_) (fun hc233 => ?_)
                            ·
                              first
                              | (exfalso; revert hc233; decide)
                              | (exfalso; omega)
                              | skip
                                refine r_seq ?_
                                refine r_region ?_
                                refine o_q _ rfl rfl rfl (v_assign rfl rfl) ?_
                                refine o_nil ?_
                                repeat (first | with_reducible refine r_then ?_ | with_reducible refine r_in_normal ?_ | with_reducible refine r_sc_normal ?_)
                                refine r_ret ?_
                                repeat (first | with_reducible refine r_then_ret ?_ | with_reducible refine r_in_ret ?_ | with_reducible refine r_sc_ret ?_)
                                first | exact r_retv2 (Rd.tmp rfl rfl) rfl SelMC.sel SubRC.sub | (exfalso; omega)
                            ·
                              first
                              | (exfalso; revert hc233; decide)
                              | (exfalso; omega)
                              | skip
                                refine r_skip ?_
                                repeat (first | with_reducible refine r_then ?_ | with_reducible refine r_in_normal ?_ | with_reducible refine r_sc_normal ?_)
                                refine r_seq ?_
                                refine r_seq ?_
                                refine r_region ?_
                                first | refine o_q _ rfl rfl rfl (v_ldW rfl Tryd.underlying25 rfl inf25 rfl rfl) ?_ | refine o_q _ rfl rfl rfl (v_lfW rfl Tryd.underlying25 rfl inf25 rfl rfl) ?_ | refine o_q _ rfl rfl rfl (v_lfN rfl Tryd.underlying25 rfl inf25 rfl rfl rfl) ?_ | refine o_q _ rfl rfl rfl (v_ldN rfl Tryd.underlying25 rfl inf25 rfl rfl rfl) ?_ | refine o_q _ rfl rfl rfl (v_loadEN rfl Tryd.underlying25 rfl inf25 rfl (by omega) rfl rfl rfl) ?_
                                first | refine o_q _ rfl rfl rfl (v_ldW rfl Tryd.underlying25 rfl inf25 rfl rfl) ?_ | refine o_q _ rfl rfl rfl (v_lfW rfl Tryd.underlying25 rfl inf25 rfl rfl) ?_ | refine o_q _ rfl rfl rfl (v_lfN rfl Tryd.underlying25 rfl inf25 rfl rfl rfl) ?_ | refine o_q _ rfl rfl rfl (v_ldN rfl Tryd.underlying25 rfl inf25 rfl rfl rfl) ?_ | refine o_q _ rfl rfl rfl (v_loadEN rfl Tryd.underlying25 rfl inf25 rfl (by omega) rfl rfl rfl) ?_
                                first | refine o_q _ rfl rfl rfl (v_ldW rfl Tryd.underlying25 rfl inf25 rfl rfl) ?_ | refine o_q _ rfl rfl rfl (v_lfW rfl Tryd.underlying25 rfl inf25 rfl rfl) ?_ | refine o_q _ rfl rfl rfl (v_lfN rfl Tryd.underlying25 rfl inf25 rfl rfl rfl) ?_ | refine o_q _ rfl rfl rfl (v_ldN rfl Tryd.underlying25 rfl inf25 rfl rfl rfl) ?_ | refine o_q _ rfl rfl rfl (v_loadEN rfl Tryd.underlying25 rfl inf25 rfl (by omega) rfl rfl rfl) ?_
                                first | refine o_q _ rfl rfl rfl (v_ldW rfl Tryd.underlying25 rfl inf25 rfl rfl) ?_ | refine o_q _ rfl rfl rfl (v_lfW rfl Tryd.underlying25 rfl inf25 rfl rfl) ?_ | refine o_q _ rfl rfl rfl (v_lfN rfl Tryd.underlying25 rfl inf25 rfl rfl rfl) ?_ | refine o_q _ rfl rfl rfl (v_ldN rfl Tryd.underlying25 rfl inf25 rfl rfl rfl) ?_ | refine o_q _ rfl rfl rfl (v_loadEN rfl Tryd.underlying25 rfl inf25 rfl (by omega) rfl rfl rfl) ?_
                                first | refine o_q _ rfl rfl rfl (v_ldW rfl Tryd.underlying25 rfl inf25 rfl rfl) ?_ | refine o_q _ rfl rfl rfl (v_lfW rfl Tryd.underlying25 rfl inf25 rfl rfl) ?_ | refine o_q _ rfl rfl rfl (v_lfN rfl Tryd.underlying25 rfl inf25 rfl rfl rfl) ?_ | refine o_q _ rfl rfl rfl (v_ldN rfl Tryd.underlying25 rfl inf25 rfl rfl rfl) ?_ | refine o_q _ rfl rfl rfl (v_loadEN rfl Tryd.underlying25 rfl inf25 rfl (by omega) rfl rfl rfl) ?_
                                refine o_lit rfl Tryd.underlying64 inf25 rfl rfl rfl rfl rfl rfl rfl rfl (by repeat (first | exact trivial | refine ⟨rfl, ?_⟩)) (by rfl) (fun b239 => ?_)
                                refine o_q _ rfl rfl rfl (v_len rfl rfl Tryd.underlying64 rfl) ?_
                                refine o_q _ rfl rfl rfl (v_move rfl rfl) ?_
                                refine o_nil ?_
                                repeat (first | with_reducible refine r_then ?_ | with_reducible refine r_in_normal ?_ | with_reducible refine r_sc_normal ?_)
                                refine r_block ?_
                                refine r_loop (ι := Nat) (fun j => j ≤ 5) (fun j => [(4, pt b4 0), (9, i64 (wk : Int)), (10, i64 (dk : Int)), (20, .slice o20 D.dues.length c20), (21, .slice o21 D.paid.length c21), (22, pt b22 0), (24, pt b24 0), (26, i64 (needT D (wk : Int) dk)), (239, .slice (some ⟨b239, 0, none⟩) 5 5), (240, i64 5), (241, i64 (j : Int))]) (fun j => bx b22 29 [i64 (leftT D (wk : Int) dk).lo, i64 (leftT D (wk : Int) dk).hi] :: bx b24 29 [i64 (aheadT D (wk : Int) dk).lo, i64 (aheadT D (wk : Int) dk).hi] :: bx b4 25 (cellsD D uo po uc pc) :: M) (fun j => rowD (some ⟨b239, 0, none⟩) 3 encV [(⟨(moreP D p0), uo, xo, uc, xc⟩ : DV), ⟨(yD D iy), uo, ya, uc, ycap⟩, ⟨(zD D iz), za, po, zcap, pc⟩, ⟨(tD D), uo, ta, uc, tcap⟩, ⟨(uD D (wk : Int)), ua, va, ucap, vcap⟩] :: rowD o20 5 encD D.dues :: rowD o21 4 encP D.paid :: rowD ua 5 encD (uU D (wk : Int) D.dues.length) :: rowD va 4 encP (uP D (wk : Int) D.paid.length) :: rowD ta 4 encP (tP D D.paid.length) :: rowD za 5 encD (zD D iz).dues :: rowD ya 4 encP (yD D iy).paid :: rowD xo 4 encP (D.paid ++ [p0]) :: ([rowD uo 5 encD D.dues, rowD po 4 encP D.paid, rowD (some ⟨0, 0, none⟩) 1 encE ([0, 1] : List Nat)] ++ Rf)) (fun j => 5 - j) 0 ?_ ?_ ?_
                                ·
                                  refine Imp.sealB b239 ?_
                                  refine Imp.rowN (b := b239) [(⟨(moreP D p0), uo, xo, uc, xc⟩ : DV), ⟨(yD D iy), uo, ya, uc, ycap⟩, ⟨(zD D iz), za, po, zcap, pc⟩, ⟨(tD D), uo, ta, uc, tcap⟩, ⟨(uD D (wk : Int)), ua, va, ucap, vcap⟩] encV_len rfl ?_
                                  refine Imp.box_to b22 [i64 (leftT D (wk : Int) dk).lo, i64 (leftT D (wk : Int) dk).hi] rfl ?_
                                  refine Imp.box_to b24 [i64 (aheadT D (wk : Int) dk).lo, i64 (aheadT D (wk : Int) dk).hi] rfl ?_
                                  exact r_here (by repeat (first | exact FSub.nil | refine FSub.cons rfl ?_)) SelMC.sel SubRC.sub
                                ·
                                  omega
                                ·
                                  rintro j hI2
                                  refine r_seq ?_
                                  refine r_region ?_
                                  refine o_q _ rfl rfl rfl (v_lss rfl rfl rfl) ?_
                                  refine o_nil ?_
                                  repeat (first | with_reducible refine r_then ?_ | with_reducible refine r_in_normal ?_ | with_reducible refine r_sc_normal ?_)
                                  refine r_seq ?_
                                  first | refine r_condd rfl (fun hc242 => ?_) (fun hc242 => ?_) | refine r_cond rfl (fun hc242 => ?_) (fun hc242 => ?_)
                                  ·
                                    first
                                    | (exfalso; revert hc242; decide)
                                    | (exfalso; omega)
                                    | skip
                                      refine r_skip ?_
                                      repeat (first | with_reducible refine r_then ?_ | with_reducible refine r_in_normal ?_ | with_reducible refine r_sc_normal ?_)
                                      refine r_seq ?_
                                      refine r_block ?_
                                      refine r_seq ?_
                                      obtain ⟨Y, hY⟩ : ∃ Y, Y = [(⟨(moreP D p0), uo, xo, uc, xc⟩ : DV), ⟨(yD D iy), uo, ya, uc, ycap⟩, ⟨(zD D iz), za, po, zcap, pc⟩, ⟨(tD D), uo, ta, uc, tcap⟩, ⟨(uD D (wk : Int)), ua, va, ucap, vcap⟩].getD j default := ⟨_, rfl⟩
                                      obtain ⟨vp1, vp2, vp3, vp4, vp5⟩ := v_people D p0 iy iz (wk : Int)
                                      have hpe : Y.D.people = D.people := by rw [hY]; exact five (p := fun _ v => v.D.people = D.people) (by omega) (vp1) (vp2) (vp3) (vp4) (vp5)
                                      obtain ⟨ul1, ul2⟩ := u_len D (wk : Int)
                                      have hln : Y.D.dues.length ≤ 40 ∧ Y.D.paid.length ≤ 40 := by rw [hY]; exact five (p := fun _ v => v.D.dues.length ≤ 40 ∧ v.D.paid.length ≤ 40) (by omega) (by show (moreP D p0).dues.length ≤ 40 ∧ (moreP D p0).paid.length ≤ 40 ; rw [x_dues, x_paid, List.length_append]; exact ⟨by omega, by show D.paid.length + 1 ≤ 40; omega⟩) (by show (yD D iy).dues.length ≤ 40 ∧ (yD D iy).paid.length ≤ 40; rw [y_dues, y_len]; omega) (by show (zD D iz).dues.length ≤ 40 ∧ (zD D iz).paid.length ≤ 40; rw [z_paid, z_len]; omega) (by show (tD D).dues.length ≤ 40 ∧ (tD D).paid.length ≤ 40; rw [t_dues, t_len]; omega) (by show (uD D (wk : Int)).dues.length ≤ 40 ∧ (uD D (wk : Int)).paid.length ≤ 40; omega)
                                      have hlaw : LawV D wk dk j Y := by rw [hY]; exact five (p := fun j v => LawV D wk dk j v) (by omega) (lawB hg (by decide) (fun h => bet_x h _)) (lawB hg (by decide) (fun _ => bet_y hg iy _)) (lawB hg (by decide) (fun _ => bet_z hg iz _)) (lawS hg (bet_t D _)) (lawS hg (bet_u D _))
                                      refine Imp.derive (ψ := rowD Y.uo 5 encD Y.D.dues) ?_ (fun V hV => by rw [hY]; exact five (p := fun _ v => rowD v.uo 5 encD v.D.dues V) (by omega) (by show rowD uo 5 encD (moreP D p0).dues V; rw [x_dues]; exact hV _ (by simp)) (by show rowD uo 5 encD (yD D iy).dues V; rw [y_dues]; exact hV _ (by simp)) (hV (rowD za 5 encD (zD D iz).dues) (by simp)) (by show rowD uo 5 encD (tD D).dues V; rw [t_dues]; exact hV _ (by simp)) (by show rowD ua 5 encD (uD D (wk : Int)).dues V; rw [← uU_all]; exact hV (rowD ua 5 encD (uU D (wk : Int) D.dues.length)) (by simp)))
                                      refine Imp.derive (ψ := rowD Y.po 4 encP Y.D.paid) ?_ (fun V hV => by rw [hY]; exact five (p := fun _ v => rowD v.po 4 encP v.D.paid V) (by omega) (by show rowD xo 4 encP (moreP D p0).paid V; rw [x_paid]; exact hV (rowD xo 4 encP (D.paid ++ [p0])) (by simp)) (hV (rowD ya 4 encP (yD D iy).paid) (by simp)) (by show rowD po 4 encP (zD D iz).paid V; rw [z_paid]; exact hV _ (by simp)) (by show rowD ta 4 encP (tD D).paid V; rw [← tP_all]; exact hV (rowD ta 4 encP (tP D D.paid.length)) (by simp)) (by show rowD va 4 encP (uD D (wk : Int)).paid V; rw [← uP_all]; exact hV (rowD va 4 encP (uP D (wk : Int) D.paid.length)) (by simp)))
                                      refine r_region ?_
                                      refine o_q _ rfl rfl rfl (v_move rfl rfl) ?_
                                      refine o_q _ rfl rfl rfl (v_indexAddrSn rfl Tryd.underlying64 inf25 rfl rfl rfl (by show j < 5; omega) rfl) ?_
                                      refine o_q _ rfl rfl rfl (v_cast (v := valD Y.D Y.uo Y.po Y.uc Y.pc) (v_loadEN rfl Tryd.underlying25 rfl inf25 rfl (by show j < 5; omega) rfl rfl rfl) (by rw [hY]; rfl)) ?_
                                      refine o_alloc rfl inf25 rfl rfl rfl rfl rfl (fun b29 => ?_)
                                      refine o_q _ rfl rfl rfl (v_assign rfl rfl) ?_
                                      refine o_st rfl inf25 rfl rfl rfl rfl rfl rfl rfl rfl ?_
                                      refine o_nil ?_
                                      repeat (first | with_reducible refine r_then ?_ | with_reducible refine r_in_normal ?_ | with_reducible refine r_sc_normal ?_)
                                      refine r_seq ?_
                                      refine r_seq ?_
                                      refine r_region ?_
                                      first | refine o_q _ rfl rfl rfl (v_ldW rfl Tryd.underlying25 rfl inf25 rfl rfl) ?_ | refine o_q _ rfl rfl rfl (v_lfW rfl Tryd.underlying25 rfl inf25 rfl rfl) ?_ | refine o_q _ rfl rfl rfl (v_lfN rfl Tryd.underlying25 rfl inf25 rfl rfl rfl) ?_ | refine o_q _ rfl rfl rfl (v_ldN rfl Tryd.underlying25 rfl inf25 rfl rfl rfl) ?_ | refine o_q _ rfl rfl rfl (v_loadEN rfl Tryd.underlying25 rfl inf25 rfl (by omega) rfl rfl rfl) ?_
                                      first | refine o_q _ rfl rfl rfl (v_true (OpQ.fn (Debt_v Y.D Y.uo Y.po Y.uc Y.pc hln.1 hln.2) rfl rfl SubRC.sub) (by omega)) ?_ | refine o_q _ rfl rfl rfl (v_false (OpQ.fn (Debt_v Y.D Y.uo Y.po Y.uc Y.pc hln.1 hln.2) rfl rfl SubRC.sub) (by omega)) ?_ | refine o_test rfl rfl rfl (OpQ.fn (Debt_v Y.D Y.uo Y.po Y.uc Y.pc hln.1 hln.2) rfl rfl SubRC.sub) (fun h247 => ?_) (fun h247 => ?_)
                                      all_goals
                                        refine o_q _ rfl rfl rfl (v_not rfl rfl) ?_
                                        refine o_nil ?_
                                        repeat (first | with_reducible refine r_then ?_ | with_reducible refine r_in_normal ?_ | with_reducible refine r_sc_normal ?_)
                                        first | refine r_condd rfl (fun hc248 => ?_) (fun hc248 => ?_) | refine r_cond rfl (fun hc248 => ?_) (fun hc248 => ?_)
                                        ·
                                          first
                                          | (exfalso; revert hc248; decide)
                                          | (exfalso; omega)
                                          | skip
                                            refine r_exit ?_
                                            repeat (first | with_reducible refine r_then_exit ?_ | with_reducible refine r_sc_exit ?_ | with_reducible refine r_in_here ?_ | (with_reducible refine r_in_past (by decide) ?_) | with_reducible refine r_then ?_ | with_reducible refine r_in_normal ?_ | with_reducible refine r_sc_normal ?_)
                                            refine r_region ?_
                                            refine o_q _ rfl rfl rfl (v_add rfl rfl rfl (by omega)) ?_
                                            refine o_q _ rfl rfl rfl (v_move rfl rfl) ?_
                                            refine o_nil ?_
                                            repeat (first | with_reducible refine r_then ?_ | with_reducible refine r_in_normal ?_ | with_reducible refine r_sc_normal ?_)
                                            refine r_next (j + 1) ?_ ?_ ?_
                                            ·
                                              exact r_here (by repeat (first | exact FSub.nil | refine FSub.cons rfl ?_)) SelMC.sel SubRC.sub
                                            ·
                                              omega
                                            ·
                                              omega
                                        ·
                                          first
                                          | (exfalso; revert hc248; decide)
                                          | (exfalso; omega)
                                          | skip
                                            refine r_skip ?_
                                            repeat (first | with_reducible refine r_then ?_ | with_reducible refine r_in_normal ?_ | with_reducible refine r_sc_normal ?_)
                                            refine r_seq ?_
                                            have hgy : GoodD Y.D := by assumption
                                            unfold LawV at hlaw
                                            obtain ⟨⟨⟨e1, e2⟩, ⟨e3, e4⟩, e5⟩, hsm⟩ := hlaw hgy
                                            have hs3 : 3 ≤ j → (needT Y.D (wk : Int) dk) = (needT D (wk : Int) dk) := fun h => (hsm h).2.2
                                            refine r_region ?_
                                            first | refine o_q _ rfl rfl rfl (v_ldW rfl Tryd.underlying25 rfl inf25 rfl rfl) ?_ | refine o_q _ rfl rfl rfl (v_lfW rfl Tryd.underlying25 rfl inf25 rfl rfl) ?_ | refine o_q _ rfl rfl rfl (v_lfN rfl Tryd.underlying25 rfl inf25 rfl rfl rfl) ?_ | refine o_q _ rfl rfl rfl (v_ldN rfl Tryd.underlying25 rfl inf25 rfl rfl rfl) ?_ | refine o_q _ rfl rfl rfl (v_loadEN rfl Tryd.underlying25 rfl inf25 rfl (by omega) rfl rfl rfl) ?_
                                            refine o_q _ rfl rfl rfl (v_move rfl rfl) ?_
                                            refine o_q _ rfl rfl rfl (v_move rfl rfl) ?_
                                            refine o_q _ rfl rfl rfl (v_cast (v := .tuple #[vS (leftT Y.D (wk : Int) dk), i64 0]) (OpQ.fn (left14_v Y.D Y.uo Y.po Y.uc Y.pc (wk : Int) (dk : Int) (by omega) (by omega)) rfl rfl SubRC.sub) (by rw [leftB_ok hgy (w := wk) (d := dk) (by omega) (by omega)]; try rfl)) ?_
                                            refine o_q _ rfl rfl rfl (v_move rfl rfl) ?_
                                            refine o_q _ rfl rfl rfl (v_extract rfl rfl rfl) ?_
                                            refine o_q _ rfl rfl rfl (v_extract rfl rfl rfl) ?_
                                            refine o_alloc rfl inf29 rfl rfl rfl rfl rfl (fun b30 => ?_)
                                            refine o_st rfl inf29 rfl rfl rfl rfl rfl rfl rfl rfl ?_
                                            refine o_q _ rfl rfl rfl (v_assign rfl rfl) ?_
                                            refine o_nil ?_
                                            repeat (first | with_reducible refine r_then ?_ | with_reducible refine r_in_normal ?_ | with_reducible refine r_sc_normal ?_)
                                            refine r_seq ?_
                                            refine r_region ?_
                                            first | refine o_q _ rfl rfl rfl (v_ldW rfl Tryd.underlying25 rfl inf25 rfl rfl) ?_ | refine o_q _ rfl rfl rfl (v_lfW rfl Tryd.underlying25 rfl inf25 rfl rfl) ?_ | refine o_q _ rfl rfl rfl (v_lfN rfl Tryd.underlying25 rfl inf25 rfl rfl rfl) ?_ | refine o_q _ rfl rfl rfl (v_ldN rfl Tryd.underlying25 rfl inf25 rfl rfl rfl) ?_ | refine o_q _ rfl rfl rfl (v_loadEN rfl Tryd.underlying25 rfl inf25 rfl (by omega) rfl rfl rfl) ?_
                                            refine o_q _ rfl rfl rfl (v_move rfl rfl) ?_
                                            refine o_q _ rfl rfl rfl (v_move rfl rfl) ?_
                                            refine o_q _ rfl rfl rfl (v_cast (v := .tuple #[vS (aheadT Y.D (wk : Int) dk), i64 0]) (OpQ.fn (ahead16_v Y.D Y.uo Y.po Y.uc Y.pc (wk : Int) (dk : Int) (by omega) (by omega)) rfl rfl SubRC.sub) (by rw [aheadB_ok hgy (w := wk) (d := dk) (by omega) (by omega)]; try rfl)) ?_
                                            refine o_q _ rfl rfl rfl (v_move rfl rfl) ?_
                                            refine o_q _ rfl rfl rfl (v_extract rfl rfl rfl) ?_
                                            refine o_q _ rfl rfl rfl (v_extract rfl rfl rfl) ?_
                                            refine o_alloc rfl inf29 rfl rfl rfl rfl rfl (fun b32 => ?_)
                                            refine o_st rfl inf29 rfl rfl rfl rfl rfl rfl rfl rfl ?_
                                            refine o_q _ rfl rfl rfl (v_assign rfl rfl) ?_
                                            refine o_nil ?_
                                            repeat (first | with_reducible refine r_then ?_ | with_reducible refine r_in_normal ?_ | with_reducible refine r_sc_normal ?_)
                                            refine r_seq ?_
                                            refine r_region ?_
                                            first | refine o_q _ rfl rfl rfl (v_ldW rfl Tryd.underlying25 rfl inf25 rfl rfl) ?_ | refine o_q _ rfl rfl rfl (v_lfW rfl Tryd.underlying25 rfl inf25 rfl rfl) ?_ | refine o_q _ rfl rfl rfl (v_lfN rfl Tryd.underlying25 rfl inf25 rfl rfl rfl) ?_ | refine o_q _ rfl rfl rfl (v_ldN rfl Tryd.underlying25 rfl inf25 rfl rfl rfl) ?_ | refine o_q _ rfl rfl rfl (v_loadEN rfl Tryd.underlying25 rfl inf25 rfl (by omega) rfl rfl rfl) ?_
                                            refine o_q _ rfl rfl rfl (v_move rfl rfl) ?_
                                            refine o_q _ rfl rfl rfl (v_move rfl rfl) ?_
                                            refine o_q _ rfl rfl rfl (v_cast (v := .tuple #[i64 (needT Y.D (wk : Int) dk), i64 0]) (OpQ.fn (need22_v Y.D Y.uo Y.po Y.uc Y.pc (wk : Int) (dk : Int) (by omega) (by omega)) rfl rfl SubRC.sub) (by rw [needB_ok hgy (w := wk) (d := dk) (by omega) (by omega)]; try rfl)) ?_
                                            refine o_q _ rfl rfl rfl (v_move rfl rfl) ?_
                                            refine o_q _ rfl rfl rfl (v_extract rfl rfl rfl) ?_
                                            refine o_q _ rfl rfl rfl (v_extract rfl rfl rfl) ?_
                                            refine o_q _ rfl rfl rfl (v_assign rfl rfl) ?_
                                            refine o_q _ rfl rfl rfl (v_assign rfl rfl) ?_
                                            refine o_nil ?_
                                            repeat (first | with_reducible refine r_then ?_ | with_reducible refine r_in_normal ?_ | with_reducible refine r_sc_normal ?_)
                                            refine r_seq ?_
                                            refine Imp.box_to b30 [i64 (leftT Y.D (wk : Int) dk).lo, i64 (leftT Y.D (wk : Int) dk).hi] rfl ?_
                                            refine Imp.box_to b32 [i64 (aheadT Y.D (wk : Int) dk).lo, i64 (aheadT Y.D (wk : Int) dk).hi] rfl ?_
                                            refine r_region ?_
                                            refine o_q _ rfl rfl rfl (v_move rfl rfl) ?_
                                            first | refine o_q _ rfl rfl rfl (v_true (v_neq rfl rfl rfl) (by omega)) ?_ | refine o_q _ rfl rfl rfl (v_false (v_neq rfl rfl rfl) (by omega)) ?_ | refine o_test rfl rfl rfl (v_neq rfl rfl rfl) (fun h271 => ?_) (fun h271 => ?_)
                                            all_goals
                                              refine o_q _ rfl rfl rfl (v_move rfl rfl) ?_
                                              first | refine o_gn rfl rfl rfl rfl ?_ | refine o_g _ rfl rfl rfl rfl (v_move rfl rfl) ?_
                                              first | refine o_gn rfl rfl rfl rfl ?_ | refine o_g _ rfl rfl rfl rfl (v_true (v_neq rfl rfl rfl) (by omega)) ?_ | refine o_g _ rfl rfl rfl rfl (v_false (v_neq rfl rfl rfl) (by omega)) ?_ | refine o_gtest rfl rfl rfl rfl (v_neq rfl rfl rfl) (fun h274 => ?_) (fun h274 => ?_)
                                              all_goals
                                                first | refine o_q _ rfl rfl rfl (v_pick_t rfl rfl rfl) ?_ | refine o_q _ rfl rfl rfl (v_pick_f rfl rfl rfl) ?_
                                                refine o_q _ rfl rfl rfl (v_move rfl rfl) ?_
                                                first | refine o_gn rfl rfl rfl rfl ?_ | refine o_g _ rfl rfl rfl rfl (v_move rfl rfl) ?_
                                                first | refine o_gn rfl rfl rfl rfl ?_ | refine o_g _ rfl rfl rfl rfl (v_true (v_neq rfl rfl rfl) (by omega)) ?_ | refine o_g _ rfl rfl rfl rfl (v_false (v_neq rfl rfl rfl) (by omega)) ?_ | refine o_gtest rfl rfl rfl rfl (v_neq rfl rfl rfl) (fun h278 => ?_) (fun h278 => ?_)
                                                all_goals
                                                  first | refine o_q _ rfl rfl rfl (v_pick_t rfl rfl rfl) ?_ | refine o_q _ rfl rfl rfl (v_pick_f rfl rfl rfl) ?_
                                                  refine o_q _ rfl rfl rfl (v_move rfl rfl) ?_
                                                  first | refine o_gn rfl rfl rfl rfl ?_ | refine o_g _ rfl rfl rfl rfl (v_fieldAddr rfl Tryd.underlying29 inf3 rfl rfl rfl rfl) ?_ | refine o_g _ rfl rfl rfl rfl (v_fieldAddrE rfl Tryd.underlying29 inf3 rfl rfl rfl rfl) ?_
                                                  first | refine o_gn rfl rfl rfl rfl ?_ | refine o_g _ rfl rfl rfl rfl (v_ld1 rfl Tryd.underlying3 rfl rfl rfl) ?_ | refine o_g _ rfl rfl rfl rfl (v_lf1 rfl Tryd.underlying3 rfl rfl rfl) ?_ | refine o_g _ rfl rfl rfl rfl (v_loadE1 rfl Tryd.underlying3 rfl rfl (by omega) rfl rfl) ?_
                                                  first | refine o_gn rfl rfl rfl rfl ?_ | refine o_g _ rfl rfl rfl rfl (v_fieldAddr rfl Tryd.underlying29 inf3 rfl rfl rfl rfl) ?_ | refine o_g _ rfl rfl rfl rfl (v_fieldAddrE rfl Tryd.underlying29 inf3 rfl rfl rfl rfl) ?_
                                                  first | refine o_gn rfl rfl rfl rfl ?_ | refine o_g _ rfl rfl rfl rfl (v_ld1 rfl Tryd.underlying3 rfl rfl rfl) ?_ | refine o_g _ rfl rfl rfl rfl (v_lf1 rfl Tryd.underlying3 rfl rfl rfl) ?_ | refine o_g _ rfl rfl rfl rfl (v_loadE1 rfl Tryd.underlying3 rfl rfl (by omega) rfl rfl) ?_
                                                  first | refine o_gn rfl rfl rfl rfl ?_ | refine o_g _ rfl rfl rfl rfl (v_true (v_gtr rfl rfl rfl) (by omega)) ?_ | refine o_g _ rfl rfl rfl rfl (v_false (v_gtr rfl rfl rfl) (by omega)) ?_ | refine o_gtest rfl rfl rfl rfl (v_gtr rfl rfl rfl) (fun h285 => ?_) (fun h285 => ?_)
                                                  all_goals
                                                    first | refine o_q _ rfl rfl rfl (v_pick_t rfl rfl rfl) ?_ | refine o_q _ rfl rfl rfl (v_pick_f rfl rfl rfl) ?_
                                                    refine o_q _ rfl rfl rfl (v_move rfl rfl) ?_
                                                    first | refine o_gn rfl rfl rfl rfl ?_ | refine o_g _ rfl rfl rfl rfl (v_fieldAddr rfl Tryd.underlying29 inf3 rfl rfl rfl rfl) ?_ | refine o_g _ rfl rfl rfl rfl (v_fieldAddrE rfl Tryd.underlying29 inf3 rfl rfl rfl rfl) ?_
                                                    first | refine o_gn rfl rfl rfl rfl ?_ | refine o_g _ rfl rfl rfl rfl (v_ld1 rfl Tryd.underlying3 rfl rfl rfl) ?_ | refine o_g _ rfl rfl rfl rfl (v_lf1 rfl Tryd.underlying3 rfl rfl rfl) ?_ | refine o_g _ rfl rfl rfl rfl (v_loadE1 rfl Tryd.underlying3 rfl rfl (by omega) rfl rfl) ?_
                                                    first | refine o_gn rfl rfl rfl rfl ?_ | refine o_g _ rfl rfl rfl rfl (v_fieldAddr rfl Tryd.underlying29 inf3 rfl rfl rfl rfl) ?_ | refine o_g _ rfl rfl rfl rfl (v_fieldAddrE rfl Tryd.underlying29 inf3 rfl rfl rfl rfl) ?_
                                                    first | refine o_gn rfl rfl rfl rfl ?_ | refine o_g _ rfl rfl rfl rfl (v_ld1 rfl Tryd.underlying3 rfl rfl rfl) ?_ | refine o_g _ rfl rfl rfl rfl (v_lf1 rfl Tryd.underlying3 rfl rfl rfl) ?_ | refine o_g _ rfl rfl rfl rfl (v_loadE1 rfl Tryd.underlying3 rfl rfl (by omega) rfl rfl) ?_
                                                    first | refine o_gn rfl rfl rfl rfl ?_ | refine o_g _ rfl rfl rfl rfl (v_true (v_gtr rfl rfl rfl) (by omega)) ?_ | refine o_g _ rfl rfl rfl rfl (v_false (v_gtr rfl rfl rfl) (by omega)) ?_ | refine o_gtest rfl rfl rfl rfl (v_gtr rfl rfl rfl) (fun h292 => ?_) (fun h292 => ?_)
                                                    all_goals
                                                      first | refine o_q _ rfl rfl rfl (v_pick_t rfl rfl rfl) ?_ | refine o_q _ rfl rfl rfl (v_pick_f rfl rfl rfl) ?_
                                                      refine o_q _ rfl rfl rfl (v_move rfl rfl) ?_
                                                      first | refine o_gn rfl rfl rfl rfl ?_ | refine o_g _ rfl rfl rfl rfl (v_fieldAddr rfl Tryd.underlying29 inf3 rfl rfl rfl rfl) ?_ | refine o_g _ rfl rfl rfl rfl (v_fieldAddrE rfl Tryd.underlying29 inf3 rfl rfl rfl rfl) ?_
                                                      first | refine o_gn rfl rfl rfl rfl ?_ | refine o_g _ rfl rfl rfl rfl (v_ld1 rfl Tryd.underlying3 rfl rfl rfl) ?_ | refine o_g _ rfl rfl rfl rfl (v_lf1 rfl Tryd.underlying3 rfl rfl rfl) ?_ | refine o_g _ rfl rfl rfl rfl (v_loadE1 rfl Tryd.underlying3 rfl rfl (by omega) rfl rfl) ?_
                                                      first | refine o_gn rfl rfl rfl rfl ?_ | refine o_g _ rfl rfl rfl rfl (v_fieldAddr rfl Tryd.underlying29 inf3 rfl rfl rfl rfl) ?_ | refine o_g _ rfl rfl rfl rfl (v_fieldAddrE rfl Tryd.underlying29 inf3 rfl rfl rfl rfl) ?_
                                                      first | refine o_gn rfl rfl rfl rfl ?_ | refine o_g _ rfl rfl rfl rfl (v_ld1 rfl Tryd.underlying3 rfl rfl rfl) ?_ | refine o_g _ rfl rfl rfl rfl (v_lf1 rfl Tryd.underlying3 rfl rfl rfl) ?_ | refine o_g _ rfl rfl rfl rfl (v_loadE1 rfl Tryd.underlying3 rfl rfl (by omega) rfl rfl) ?_
                                                      first | refine o_gn rfl rfl rfl rfl ?_ | refine o_g _ rfl rfl rfl rfl (v_true (v_lss rfl rfl rfl) (by omega)) ?_ | refine o_g _ rfl rfl rfl rfl (v_false (v_lss rfl rfl rfl) (by omega)) ?_ | refine o_gtest rfl rfl rfl rfl (v_lss rfl rfl rfl) (fun h299 => ?_) (fun h299 => ?_)
                                                      all_goals
                                                        first | refine o_q _ rfl rfl rfl (v_pick_t rfl rfl rfl) ?_ | refine o_q _ rfl rfl rfl (v_pick_f rfl rfl rfl) ?_
                                                        refine o_q _ rfl rfl rfl (v_move rfl rfl) ?_
                                                        first | refine o_gn rfl rfl rfl rfl ?_ | refine o_g _ rfl rfl rfl rfl (v_fieldAddr rfl Tryd.underlying29 inf3 rfl rfl rfl rfl) ?_ | refine o_g _ rfl rfl rfl rfl (v_fieldAddrE rfl Tryd.underlying29 inf3 rfl rfl rfl rfl) ?_
                                                        first | refine o_gn rfl rfl rfl rfl ?_ | refine o_g _ rfl rfl rfl rfl (v_ld1 rfl Tryd.underlying3 rfl rfl rfl) ?_ | refine o_g _ rfl rfl rfl rfl (v_lf1 rfl Tryd.underlying3 rfl rfl rfl) ?_ | refine o_g _ rfl rfl rfl rfl (v_loadE1 rfl Tryd.underlying3 rfl rfl (by omega) rfl rfl) ?_
                                                        first | refine o_gn rfl rfl rfl rfl ?_ | refine o_g _ rfl rfl rfl rfl (v_fieldAddr rfl Tryd.underlying29 inf3 rfl rfl rfl rfl) ?_ | refine o_g _ rfl rfl rfl rfl (v_fieldAddrE rfl Tryd.underlying29 inf3 rfl rfl rfl rfl) ?_
                                                        first | refine o_gn rfl rfl rfl rfl ?_ | refine o_g _ rfl rfl rfl rfl (v_ld1 rfl Tryd.underlying3 rfl rfl rfl) ?_ | refine o_g _ rfl rfl rfl rfl (v_lf1 rfl Tryd.underlying3 rfl rfl rfl) ?_ | refine o_g _ rfl rfl rfl rfl (v_loadE1 rfl Tryd.underlying3 rfl rfl (by omega) rfl rfl) ?_
                                                        first | refine o_gn rfl rfl rfl rfl ?_ | refine o_g _ rfl rfl rfl rfl (v_true (v_lss rfl rfl rfl) (by omega)) ?_ | refine o_g _ rfl rfl rfl rfl (v_false (v_lss rfl rfl rfl) (by omega)) ?_ | refine o_gtest rfl rfl rfl rfl (v_lss rfl rfl rfl) (fun h306 => ?_) (fun h306 => ?_)
                                                        all_goals
                                                          first | refine o_q _ rfl rfl rfl (v_pick_t rfl rfl rfl) ?_ | refine o_q _ rfl rfl rfl (v_pick_f rfl rfl rfl) ?_
                                                          refine o_q _ rfl rfl rfl (v_move rfl rfl) ?_
                                                          first | refine o_gn rfl rfl rfl rfl ?_ | refine o_g _ rfl rfl rfl rfl (v_move rfl rfl) ?_
                                                          first | refine o_gn rfl rfl rfl rfl ?_ | refine o_g _ rfl rfl rfl rfl (v_move rfl rfl) ?_
                                                          first | refine o_gn rfl rfl rfl rfl ?_ | refine o_g _ rfl rfl rfl rfl (v_true (v_gtr rfl rfl rfl) (by omega)) ?_ | refine o_g _ rfl rfl rfl rfl (v_false (v_gtr rfl rfl rfl) (by omega)) ?_ | refine o_gtest rfl rfl rfl rfl (v_gtr rfl rfl rfl) (fun h311 => ?_) (fun h311 => ?_)
                                                          all_goals
                                                            first | refine o_q _ rfl rfl rfl (v_pick_t rfl rfl rfl) ?_ | refine o_q _ rfl rfl rfl (v_pick_f rfl rfl rfl) ?_
                                                            refine o_q _ rfl rfl rfl (v_move rfl rfl) ?_
                                                            first | refine o_gn rfl rfl rfl rfl ?_ | refine o_g _ rfl rfl rfl rfl (v_move rfl rfl) ?_
                                                            first | refine o_gn rfl rfl rfl rfl ?_ | refine o_g _ rfl rfl rfl rfl (v_true (v_geq rfl rfl rfl) (by omega)) ?_ | refine o_g _ rfl rfl rfl rfl (v_false (v_geq rfl rfl rfl) (by omega)) ?_ | refine o_gtest rfl rfl rfl rfl (v_geq rfl rfl rfl) (fun h315 => ?_) (fun h315 => ?_)
                                                            all_goals
                                                              first | refine o_gn rfl rfl rfl rfl ?_ | refine o_g _ rfl rfl rfl rfl (v_move rfl rfl) ?_
                                                              first | refine o_gn rfl rfl rfl rfl ?_ | refine o_g _ rfl rfl rfl rfl (v_ldW rfl Tryd.underlying29 rfl inf29 rfl rfl) ?_ | refine o_g _ rfl rfl rfl rfl (v_lfW rfl Tryd.underlying29 rfl inf29 rfl rfl) ?_ | refine o_g _ rfl rfl rfl rfl (v_lfN rfl Tryd.underlying29 rfl inf29 rfl rfl rfl) ?_ | refine o_g _ rfl rfl rfl rfl (v_ldN rfl Tryd.underlying29 rfl inf29 rfl rfl rfl) ?_ | refine o_g _ rfl rfl rfl rfl (v_loadEN rfl Tryd.underlying29 rfl inf29 rfl (by omega) rfl rfl rfl) ?_
                                                              first | refine o_gn rfl rfl rfl rfl ?_ | refine o_g _ rfl rfl rfl rfl (v_ldW rfl Tryd.underlying29 rfl inf29 rfl rfl) ?_ | refine o_g _ rfl rfl rfl rfl (v_lfW rfl Tryd.underlying29 rfl inf29 rfl rfl) ?_ | refine o_g _ rfl rfl rfl rfl (v_lfN rfl Tryd.underlying29 rfl inf29 rfl rfl rfl) ?_ | refine o_g _ rfl rfl rfl rfl (v_ldN rfl Tryd.underlying29 rfl inf29 rfl rfl rfl) ?_ | refine o_g _ rfl rfl rfl rfl (v_loadEN rfl Tryd.underlying29 rfl inf29 rfl (by omega) rfl rfl rfl) ?_
                                                              first | refine o_gn rfl rfl rfl rfl ?_ | refine o_g _ rfl rfl rfl rfl (v_cast (v := .bool false) (v_neP rfl rfl rfl guard29 (eq29 _ _ _ _)) (congrArg Value.bool (decide_eq_false (fun h => h ((hsm (by omega)).1))))) ?_
                                                              first | refine o_gn rfl rfl rfl rfl ?_ | refine o_g _ rfl rfl rfl rfl (v_move rfl rfl) ?_
                                                              first | refine o_gn rfl rfl rfl rfl ?_ | refine o_g _ rfl rfl rfl rfl (v_ldW rfl Tryd.underlying29 rfl inf29 rfl rfl) ?_ | refine o_g _ rfl rfl rfl rfl (v_lfW rfl Tryd.underlying29 rfl inf29 rfl rfl) ?_ | refine o_g _ rfl rfl rfl rfl (v_lfN rfl Tryd.underlying29 rfl inf29 rfl rfl rfl) ?_ | refine o_g _ rfl rfl rfl rfl (v_ldN rfl Tryd.underlying29 rfl inf29 rfl rfl rfl) ?_ | refine o_g _ rfl rfl rfl rfl (v_loadEN rfl Tryd.underlying29 rfl inf29 rfl (by omega) rfl rfl rfl) ?_
                                                              first | refine o_gn rfl rfl rfl rfl ?_ | refine o_g _ rfl rfl rfl rfl (v_ldW rfl Tryd.underlying29 rfl inf29 rfl rfl) ?_ | refine o_g _ rfl rfl rfl rfl (v_lfW rfl Tryd.underlying29 rfl inf29 rfl rfl) ?_ | refine o_g _ rfl rfl rfl rfl (v_lfN rfl Tryd.underlying29 rfl inf29 rfl rfl rfl) ?_ | refine o_g _ rfl rfl rfl rfl (v_ldN rfl Tryd.underlying29 rfl inf29 rfl rfl rfl) ?_ | refine o_g _ rfl rfl rfl rfl (v_loadEN rfl Tryd.underlying29 rfl inf29 rfl (by omega) rfl rfl rfl) ?_
                                                              first | refine o_gn rfl rfl rfl rfl ?_ | refine o_g _ rfl rfl rfl rfl (v_cast (v := .bool false) (v_neP rfl rfl rfl guard29 (eq29 _ _ _ _)) (congrArg Value.bool (decide_eq_false (fun h => h ((hsm (by omega)).2.1))))) ?_
                                                              first | refine o_gn rfl rfl rfl rfl ?_ | refine o_g _ rfl rfl rfl rfl (v_pick_t rfl rfl rfl) ?_ | refine o_g _ rfl rfl rfl rfl (v_pick_f rfl rfl rfl) ?_
                                                              first | refine o_gn rfl rfl rfl rfl ?_ | refine o_g _ rfl rfl rfl rfl (v_move rfl rfl) ?_
                                                              first | refine o_gn rfl rfl rfl rfl ?_ | refine o_g _ rfl rfl rfl rfl (v_move rfl rfl) ?_
                                                              first | refine o_gn rfl rfl rfl rfl ?_ | refine o_g _ rfl rfl rfl rfl (v_move rfl rfl) ?_
                                                              first | refine o_gn rfl rfl rfl rfl ?_ | refine o_g _ rfl rfl rfl rfl (v_true (v_neq rfl rfl rfl) (by omega)) ?_ | refine o_g _ rfl rfl rfl rfl (v_false (v_neq rfl rfl rfl) (by omega)) ?_ | refine o_gtest rfl rfl rfl rfl (v_neq rfl rfl rfl) (fun h328 => ?_) (fun h328 => ?_)
                                                              all_goals
                                                                first | refine o_gn rfl rfl rfl rfl ?_ | refine o_g _ rfl rfl rfl rfl (v_pick_t rfl rfl rfl) ?_ | refine o_g _ rfl rfl rfl rfl (v_pick_f rfl rfl rfl) ?_
                                                                first | refine o_gn rfl rfl rfl rfl ?_ | refine o_g _ rfl rfl rfl rfl (v_pick_t rfl rfl rfl) ?_ | refine o_g _ rfl rfl rfl rfl (v_pick_f rfl rfl rfl) ?_
                                                                first | refine o_q _ rfl rfl rfl (v_pick_t rfl rfl rfl) ?_ | refine o_q _ rfl rfl rfl (v_pick_f rfl rfl rfl) ?_
                                                                refine o_nil ?_
                                                                repeat (first | with_reducible refine r_then ?_ | with_reducible refine r_in_normal ?_ | with_reducible refine r_sc_normal ?_)
                                                                first | refine r_condd rfl (fun hc331 => ?_) (fun hc331 => ?_) | refine r_cond rfl (fun hc331 => ?_) (fun hc331 => ?_)
                                                                ·
                                                                  first
                                                                  | (exfalso; revert hc331; decide)
                                                                  | (exfalso; omega)
                                                                  | skip
                                                                    refine r_seq ?_
                                                                    refine r_region ?_
                                                                    refine o_q _ rfl rfl rfl (v_assign rfl rfl) ?_
                                                                    refine o_nil ?_
                                                                    repeat (first | with_reducible refine r_then ?_ | with_reducible refine r_in_normal ?_ | with_reducible refine r_sc_normal ?_)
                                                                    refine r_ret ?_
                                                                    repeat (first | with_reducible refine r_then_ret ?_ | with_reducible refine r_in_ret ?_ | with_reducible refine r_sc_ret ?_)
                                                                    first | exact r_retv2 (Rd.tmp rfl rfl) rfl SelMC.sel SubRC.sub | (exfalso; omega)
                                                                ·
                                                                  first
                                                                  | (exfalso; revert hc331; decide)
                                                                  | (exfalso; omega)
                                                                  | skip
                                                                    refine r_skip ?_
                                                                    repeat (first | with_reducible refine r_then ?_ | with_reducible refine r_in_normal ?_ | with_reducible refine r_sc_normal ?_)
                                                                    refine r_region ?_
                                                                    refine o_q _ rfl rfl rfl (v_add rfl rfl rfl (by omega)) ?_
                                                                    refine o_q _ rfl rfl rfl (v_move rfl rfl) ?_
                                                                    refine o_nil ?_
                                                                    repeat (first | with_reducible refine r_then ?_ | with_reducible refine r_in_normal ?_ | with_reducible refine r_sc_normal ?_)
                                                                    refine r_next (j + 1) ?_ ?_ ?_
                                                                    ·
                                                                      exact r_here (by repeat (first | exact FSub.nil | refine FSub.cons rfl ?_)) SelMC.sel SubRC.sub
                                                                    ·
                                                                      omega
                                                                    ·
                                                                      omega
                                  ·
                                    first
                                    | (exfalso; revert hc242; decide)
                                    | (exfalso; omega)
                                    | skip
                                      refine r_exit ?_
                                      repeat (first | with_reducible refine r_then_exit ?_ | with_reducible refine r_sc_exit ?_ | with_reducible refine r_in_here ?_ | (with_reducible refine r_in_past (by decide) ?_) | with_reducible refine r_then ?_ | with_reducible refine r_in_normal ?_ | with_reducible refine r_sc_normal ?_)
                                      refine r_seq ?_
                                      refine r_seq ?_
                                      refine r_region ?_
                                      refine o_q _ rfl rfl rfl (v_move rfl rfl) ?_
                                      refine o_q _ rfl rfl rfl (v_len rfl rfl Tryd.underlying22 rfl) ?_
                                      refine o_q _ rfl rfl rfl (v_move rfl rfl) ?_
                                      refine o_nil ?_
                                      repeat (first | with_reducible refine r_then ?_ | with_reducible refine r_in_normal ?_ | with_reducible refine r_sc_normal ?_)
                                      refine r_block ?_
                                      refine r_loop (ι := Nat) (fun q => q ≤ D.dues.length) (fun q => [(4, pt b4 0), (20, .slice o20 D.dues.length c20), (21, .slice o21 D.paid.length c21), (334, i64 D.dues.length), (335, i64 (q : Int))]) (fun q => bx b4 25 (cellsD D uo po uc pc) :: M) (fun q => rowD o20 5 encD D.dues :: rowD o21 4 encP D.paid :: ([rowD uo 5 encD D.dues, rowD po 4 encP D.paid, rowD (some ⟨0, 0, none⟩) 1 encE ([0, 1] : List Nat)] ++ Rf)) (fun q => D.dues.length - q) 0 ?_ ?_ ?_
                                      ·
                                        exact r_here (by repeat (first | exact FSub.nil | refine FSub.cons rfl ?_)) SelMC.sel SubRC.sub
                                      ·
                                        omega
                                      ·
                                        rintro q hI3
                                        refine r_seq ?_
                                        refine r_region ?_
                                        refine o_q _ rfl rfl rfl (v_lss rfl rfl rfl) ?_
                                        refine o_nil ?_
                                        repeat (first | with_reducible refine r_then ?_ | with_reducible refine r_in_normal ?_ | with_reducible refine r_sc_normal ?_)
                                        refine r_seq ?_
                                        first | refine r_condd rfl (fun hc336 => ?_) (fun hc336 => ?_) | refine r_cond rfl (fun hc336 => ?_) (fun hc336 => ?_)
                                        ·
                                          first
                                          | (exfalso; revert hc336; decide)
                                          | (exfalso; omega)
                                          | skip
                                            refine r_skip ?_
                                            repeat (first | with_reducible refine r_then ?_ | with_reducible refine r_in_normal ?_ | with_reducible refine r_sc_normal ?_)
                                            refine r_seq ?_
                                            refine r_block ?_
                                            refine r_seq ?_
                                            refine r_region ?_
                                            refine o_q _ rfl rfl rfl (v_move rfl rfl) ?_
                                            refine o_q _ rfl rfl rfl (v_assign rfl rfl) ?_
                                            refine o_nil ?_
                                            repeat (first | with_reducible refine r_then ?_ | with_reducible refine r_in_normal ?_ | with_reducible refine r_sc_normal ?_)
                                            refine r_seq ?_
                                            refine r_region_q mixed (by kernel_rfl) ?_
                                            refine q_q _ rfl rfl rfl (v_move rfl rfl) ?_
                                            refine q_q _ rfl rfl rfl (v_move rfl rfl) ?_
                                            first | refine q_q _ rfl rfl rfl (v_indexAddrSn rfl Tryd.underlying22 inf62 rfl rfl rfl (by omega) rfl) ?_ | refine q_q _ rfl rfl rfl (v_indexAddrS rfl Tryd.underlying22 inf62 rfl rfl rfl (by omega) (by omega) rfl) ?_
                                            refine q_q _ rfl rfl rfl (v_cast (v := .agg #[i64 (D.dues.getD q default).who, i64 (D.dues.getD q default).day, i64 (D.dues.getD q default).sods.lo, i64 (D.dues.getD q default).sods.hi, i64 (D.dues.getD q default).late]) (v_loadEN rfl Tryd.underlying62 rfl inf62 rfl (by omega) rfl rfl rfl) rfl) ?_
                                            first | refine q_q _ rfl rfl rfl (v_fieldAddr rfl Tryd.underlying25 inf22 rfl rfl rfl rfl) ?_ | refine q_q _ rfl rfl rfl (v_fieldAddrE rfl Tryd.underlying25 inf22 rfl rfl rfl rfl) ?_
                                            first | refine q_q _ rfl rfl rfl (v_ld1 rfl Tryd.underlying22 rfl rfl rfl) ?_ | refine q_q _ rfl rfl rfl (v_lf1 rfl Tryd.underlying22 rfl rfl rfl) ?_ | refine q_q _ rfl rfl rfl (v_loadE1 rfl Tryd.underlying22 rfl rfl (by omega) rfl rfl) ?_
                                            refine q_q _ rfl rfl rfl (v_move rfl rfl) ?_
                                            first | refine q_q _ rfl rfl rfl (v_indexAddrSn rfl Tryd.underlying22 inf62 rfl rfl rfl (by omega) rfl) ?_ | refine q_q _ rfl rfl rfl (v_indexAddrS rfl Tryd.underlying22 inf62 rfl rfl rfl (by omega) (by omega) rfl) ?_
                                            refine q_q _ rfl rfl rfl (v_cast (v := .agg #[i64 (D.dues.getD q default).who, i64 (D.dues.getD q default).day, i64 (D.dues.getD q default).sods.lo, i64 (D.dues.getD q default).sods.hi, i64 (D.dues.getD q default).late]) (v_loadEN rfl Tryd.underlying62 rfl inf62 rfl (by omega) rfl rfl rfl) rfl) ?_
                                            refine q_q _ rfl rfl rfl (v_cast (v := .bool false) (v_neP rfl rfl rfl guard62 (eq62 _ _ _ _ _ _ _ _ _ _)) (congrArg Value.bool (decide_eq_false (fun h => h rfl)))) ?_
                                            refine q_nil ?_
                                            repeat (first | with_reducible refine r_then ?_ | with_reducible refine r_in_normal ?_ | with_reducible refine r_sc_normal ?_)
                                            first | refine r_condd rfl (fun hc347 => ?_) (fun hc347 => ?_) | refine r_cond rfl (fun hc347 => ?_) (fun hc347 => ?_)
                                            ·
                                              first
                                              | (exfalso; revert hc347; decide)
                                              | (exfalso; omega)
                                              | skip
                                                refine r_seq ?_
                                                refine r_region ?_
                                                refine o_q _ rfl rfl rfl (v_assign rfl rfl) ?_
                                                refine o_nil ?_
                                                repeat (first | with_reducible refine r_then ?_ | with_reducible refine r_in_normal ?_ | with_reducible refine r_sc_normal ?_)
                                                refine r_ret ?_
                                                repeat (first | with_reducible refine r_then_ret ?_ | with_reducible refine r_in_ret ?_ | with_reducible refine r_sc_ret ?_)
                                                first | exact r_retv2 (Rd.tmp rfl rfl) rfl SelMC.sel SubRC.sub | (exfalso; omega)
                                            ·
                                              first
                                              | (exfalso; revert hc347; decide)
                                              | (exfalso; omega)
                                              | skip
                                                refine r_skip ?_
                                                repeat (first | with_reducible refine r_then ?_ | with_reducible refine r_in_normal ?_ | with_reducible refine r_sc_normal ?_)
                                                refine r_region ?_
                                                refine o_q _ rfl rfl rfl (v_add rfl rfl rfl (by omega)) ?_
                                                refine o_q _ rfl rfl rfl (v_move rfl rfl) ?_
                                                refine o_nil ?_
                                                repeat (first | with_reducible refine r_then ?_ | with_reducible refine r_in_normal ?_ | with_reducible refine r_sc_normal ?_)
                                                refine r_next (q + 1) ?_ ?_ ?_
                                                ·
                                                  exact r_here (by repeat (first | exact FSub.nil | refine FSub.cons rfl ?_)) SelMC.sel SubRC.sub
                                                ·
                                                  omega
                                                ·
                                                  omega
                                        ·
                                          first
                                          | (exfalso; revert hc336; decide)
                                          | (exfalso; omega)
                                          | skip
                                            refine r_exit ?_
                                            repeat (first | with_reducible refine r_then_exit ?_ | with_reducible refine r_sc_exit ?_ | with_reducible refine r_in_here ?_ | (with_reducible refine r_in_past (by decide) ?_) | with_reducible refine r_then ?_ | with_reducible refine r_in_normal ?_ | with_reducible refine r_sc_normal ?_)
                                            refine r_seq ?_
                                            refine r_seq ?_
                                            refine r_region ?_
                                            refine o_q _ rfl rfl rfl (v_move rfl rfl) ?_
                                            refine o_q _ rfl rfl rfl (v_len rfl rfl Tryd.underlying23 rfl) ?_
                                            refine o_q _ rfl rfl rfl (v_move rfl rfl) ?_
                                            refine o_nil ?_
                                            repeat (first | with_reducible refine r_then ?_ | with_reducible refine r_in_normal ?_ | with_reducible refine r_sc_normal ?_)
                                            refine r_block ?_
                                            refine r_loop (ι := Nat) (fun q => q ≤ D.paid.length) (fun q => [(4, pt b4 0), (20, .slice o20 D.dues.length c20), (21, .slice o21 D.paid.length c21), (350, i64 D.paid.length), (351, i64 (q : Int))]) (fun q => bx b4 25 (cellsD D uo po uc pc) :: M) (fun q => rowD o20 5 encD D.dues :: rowD o21 4 encP D.paid :: ([rowD uo 5 encD D.dues, rowD po 4 encP D.paid, rowD (some ⟨0, 0, none⟩) 1 encE ([0, 1] : List Nat)] ++ Rf)) (fun q => D.paid.length - q) 0 ?_ ?_ ?_
                                            ·
                                              exact r_here (by repeat (first | exact FSub.nil | refine FSub.cons rfl ?_)) SelMC.sel SubRC.sub
                                            ·
                                              omega
                                            ·
                                              rintro q hI4
                                              refine r_seq ?_
                                              refine r_region ?_
                                              refine o_q _ rfl rfl rfl (v_lss rfl rfl rfl) ?_
                                              refine o_nil ?_
                                              repeat (first | with_reducible refine r_then ?_ | with_reducible refine r_in_normal ?_ | with_reducible refine r_sc_normal ?_)
                                              refine r_seq ?_
                                              first | refine r_condd rfl (fun hc352 => ?_) (fun hc352 => ?_) | refine r_cond rfl (fun hc352 => ?_) (fun hc352 => ?_)
                                              ·
                                                first
                                                | (exfalso; revert hc352; decide)
                                                | (exfalso; omega)
                                                | skip
                                                  refine r_skip ?_
                                                  repeat (first | with_reducible refine r_then ?_ | with_reducible refine r_in_normal ?_ | with_reducible refine r_sc_normal ?_)
                                                  refine r_seq ?_
                                                  refine r_block ?_
                                                  refine r_seq ?_
                                                  refine r_region ?_
                                                  refine o_q _ rfl rfl rfl (v_move rfl rfl) ?_
                                                  refine o_q _ rfl rfl rfl (v_assign rfl rfl) ?_
                                                  refine o_nil ?_
                                                  repeat (first | with_reducible refine r_then ?_ | with_reducible refine r_in_normal ?_ | with_reducible refine r_sc_normal ?_)
                                                  refine r_seq ?_
                                                  refine r_region_q mixed (by kernel_rfl) ?_
                                                  refine q_q _ rfl rfl rfl (v_move rfl rfl) ?_
                                                  refine q_q _ rfl rfl rfl (v_move rfl rfl) ?_
                                                  first | refine q_q _ rfl rfl rfl (v_indexAddrSn rfl Tryd.underlying23 inf54 rfl rfl rfl (by omega) rfl) ?_ | refine q_q _ rfl rfl rfl (v_indexAddrS rfl Tryd.underlying23 inf54 rfl rfl rfl (by omega) (by omega) rfl) ?_
                                                  refine q_q _ rfl rfl rfl (v_cast (v := .agg #[i64 (D.paid.getD q default).who, i64 (D.paid.getD q default).day, i64 (D.paid.getD q default).sods.lo, i64 (D.paid.getD q default).sods.hi]) (v_loadEN rfl Tryd.underlying54 rfl inf54 rfl (by omega) rfl rfl rfl) rfl) ?_
                                                  first | refine q_q _ rfl rfl rfl (v_fieldAddr rfl Tryd.underlying25 inf23 rfl rfl rfl rfl) ?_ | refine q_q _ rfl rfl rfl (v_fieldAddrE rfl Tryd.underlying25 inf23 rfl rfl rfl rfl) ?_
                                                  first | refine q_q _ rfl rfl rfl (v_ld1 rfl Tryd.underlying23 rfl rfl rfl) ?_ | refine q_q _ rfl rfl rfl (v_lf1 rfl Tryd.underlying23 rfl rfl rfl) ?_ | refine q_q _ rfl rfl rfl (v_loadE1 rfl Tryd.underlying23 rfl rfl (by omega) rfl rfl) ?_
                                                  refine q_q _ rfl rfl rfl (v_move rfl rfl) ?_
                                                  first | refine q_q _ rfl rfl rfl (v_indexAddrSn rfl Tryd.underlying23 inf54 rfl rfl rfl (by omega) rfl) ?_ | refine q_q _ rfl rfl rfl (v_indexAddrS rfl Tryd.underlying23 inf54 rfl rfl rfl (by omega) (by omega) rfl) ?_
                                                  refine q_q _ rfl rfl rfl (v_cast (v := .agg #[i64 (D.paid.getD q default).who, i64 (D.paid.getD q default).day, i64 (D.paid.getD q default).sods.lo, i64 (D.paid.getD q default).sods.hi]) (v_loadEN rfl Tryd.underlying54 rfl inf54 rfl (by omega) rfl rfl rfl) rfl) ?_
                                                  refine q_q _ rfl rfl rfl (v_cast (v := .bool false) (v_neP rfl rfl rfl guard54 (eq54 _ _ _ _ _ _ _ _)) (congrArg Value.bool (decide_eq_false (fun h => h rfl)))) ?_
                                                  refine q_nil ?_
                                                  repeat (first | with_reducible refine r_then ?_ | with_reducible refine r_in_normal ?_ | with_reducible refine r_sc_normal ?_)
                                                  first | refine r_condd rfl (fun hc363 => ?_) (fun hc363 => ?_) | refine r_cond rfl (fun hc363 => ?_) (fun hc363 => ?_)
                                                  ·
                                                    first
                                                    | (exfalso; revert hc363; decide)
                                                    | (exfalso; omega)
                                                    | skip
                                                      refine r_seq ?_
                                                      refine r_region ?_
                                                      refine o_q _ rfl rfl rfl (v_assign rfl rfl) ?_
                                                      refine o_nil ?_
                                                      repeat (first | with_reducible refine r_then ?_ | with_reducible refine r_in_normal ?_ | with_reducible refine r_sc_normal ?_)
                                                      refine r_ret ?_
                                                      repeat (first | with_reducible refine r_then_ret ?_ | with_reducible refine r_in_ret ?_ | with_reducible refine r_sc_ret ?_)
                                                      first | exact r_retv2 (Rd.tmp rfl rfl) rfl SelMC.sel SubRC.sub | (exfalso; omega)
                                                  ·
                                                    first
                                                    | (exfalso; revert hc363; decide)
                                                    | (exfalso; omega)
                                                    | skip
                                                      refine r_skip ?_
                                                      repeat (first | with_reducible refine r_then ?_ | with_reducible refine r_in_normal ?_ | with_reducible refine r_sc_normal ?_)
                                                      refine r_region ?_
                                                      refine o_q _ rfl rfl rfl (v_add rfl rfl rfl (by omega)) ?_
                                                      refine o_q _ rfl rfl rfl (v_move rfl rfl) ?_
                                                      refine o_nil ?_
                                                      repeat (first | with_reducible refine r_then ?_ | with_reducible refine r_in_normal ?_ | with_reducible refine r_sc_normal ?_)
                                                      refine r_next (q + 1) ?_ ?_ ?_
                                                      ·
                                                        exact r_here (by repeat (first | exact FSub.nil | refine FSub.cons rfl ?_)) SelMC.sel SubRC.sub
                                                      ·
                                                        omega
                                                      ·
                                                        omega
                                              ·
                                                first
                                                | (exfalso; revert hc352; decide)
                                                | (exfalso; omega)
                                                | skip
                                                  refine r_exit ?_
                                                  repeat (first | with_reducible refine r_then_exit ?_ | with_reducible refine r_sc_exit ?_ | with_reducible refine r_in_here ?_ | (with_reducible refine r_in_past (by decide) ?_) | with_reducible refine r_then ?_ | with_reducible refine r_in_normal ?_ | with_reducible refine r_sc_normal ?_)
                                                  refine r_seq ?_
                                                  refine r_region ?_
                                                  refine o_q _ rfl rfl rfl (OpQ.fn awake_v rfl rfl SubRC.sub) ?_
                                                  refine o_q _ rfl rfl rfl (v_assign rfl rfl) ?_
                                                  refine o_nil ?_
                                                  repeat (first | with_reducible refine r_then ?_ | with_reducible refine r_in_normal ?_ | with_reducible refine r_sc_normal ?_)
                                                  refine r_ret ?_
                                                  repeat (first | with_reducible refine r_then_ret ?_ | with_reducible refine r_in_ret ?_ | with_reducible refine r_sc_ret ?_)
                                                  first | exact r_retv2 (Rd.tmp rfl rfl) rfl SelMC.sel SubRC.sub | (exfalso; omega)
theorem mores_v (p0 : Paid) (w0 : Nat) (b0 : w0 ≤ 255) (w1 : Nat) (b1 : w1 ≤ 255) : FnV Tryd.prog 11 [valD D uo po uc pc, .agg #[i64 p0.who, i64 p0.day, i64 p0.sods.lo, i64 p0.sods.hi], .int .u8 w0, .int .u8 w1] [rowD uo 5 encD D.dues, rowD po 4 encP D.paid, rowD (some ⟨0, 0, none⟩) 1 encE ([0, 1] : List Nat)] (.bool true) := by
  by_cases h : ¬ farD D ∧ GoodD D
  · exact mores_ok D uo po uc pc p0 w0 b0 w1 b1 _ _ _ _ rfl rfl rfl rfl h.1 h.2
  · exact mores_not D uo po uc pc p0 w0 b0 w1 b1 h
end Go.Proofs.YtpfgiednfjfdmaaDoor

