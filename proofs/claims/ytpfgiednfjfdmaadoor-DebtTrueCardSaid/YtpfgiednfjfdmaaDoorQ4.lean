/- Part 4 of 6 of what the proofs of this seat stand on: a small logic for walks, what the functions come to, and the walks themselves. No condition of its own. -/
import Derived.Test.YtpfgiednfjfdmaaDoorQ3
set_option linter.unusedVariables false
set_option linter.unusedSimpArgs false
set_option linter.unusedSectionVars false
namespace Go.G
variable {P : Program} {W : World} {n : Nat} {D : List Deferred} {L : Tm} {M : List Res} {R : List Fact} {Q : Exit → Act → World → Prop} {o : Oper} {Z : World → Prop}
/-- A call that takes what an earlier one made, and hands back one value. -/
theorem p_takeN {ops : Array Oper} {K : List Spc → Prop} {rest : List Oper} {acc : List Spc} {k : FuncId} {R0 : List Fact} {res : Nat → Res} {v : Value} {xs : List Operand} {args : Nat → List Value} {ts : Array TypeId} {d x : Nat} (j : Nat) {oj : Oper}
    (h : ∀ b, FnS P k (args b) [res b] R0 (fun e M' R' => e = .returned v ∧ M' = [] ∧ R' = [])) (ho : o.op = .call { callee := .value (.func k), args := xs.toArray, argTypes := ts })
    (hoj : ops[j]? = some oj) (hx : oj.dst.getD 1000000 = x) (hxe : ∀ b, evs ((x, pt b 0) :: L) xs = some (args b)) (hsj : acc[j]? = some (Spc.al isPt (fun v => [res (blk v)]) acc.length (fun _ => []))) (hdep : depD ops o j = true) (hg : o.guard = none) (hdst : o.dst = some d) (hd : Nat.blt d n = true) (hs : SubR R R0)
    (hr : ParO P W n M R ops K rest (acc ++ [Spc.s5 (some v) (fun _ => True) j none]) ((d, v) :: L)) : ParO P W n M R ops K (o :: rest) acc L := by
  refine ⟨Spc.s5 (some v) (fun _ => True) j none, by simp [hdst, hd], .inr (.inl ⟨hg, j, oj, _, _, some v, _, none, _, rfl, hoj, hsj, rfl, rfl, hdep, fun u hu => ?_⟩), by simpa [addL, Spc.s5, hdst] using hr⟩
  obtain ⟨b, rfl⟩ := hu
  rw [hx]
  intro Mx Rx a w h1 h2
  have h2 : St W (Mx ++ ([res b] ++ M)) (Rx ++ R) w := h2
  rw [exec_call [] [] (xs := xs) ho rfl (h1.evs (hxe b)) (h b).enter]
  have h3 : St W ([res b] ++ (Mx ++ M)) (R0 ++ (Rx ++ R)) w := (h2.perm (by
    rw [← List.append_assoc, ← List.append_assoc]
    exact List.perm_append_comm.append_right M)).both (fun φ hφ => List.mem_append_right _ (hs φ hφ))
  rw [List.nil_append, List.append_nil]
  refine ⟨rfl, ((h b).calls W (Mx ++ M) (Rx ++ R) w h3).mono ?_⟩
  rintro e w' ⟨M1, R1, ⟨rfl, rfl, rfl⟩, hw'⟩
  exact .inl ⟨v, rfl, rfl, hw'.weak (fun φ hφ => List.mem_append_right _ (List.mem_append_right _ hφ))⟩
/-- .. of which something holds, and facts for good. -/
theorem p_takeG {ops : Array Oper} {K : List Spc → Prop} {rest : List Oper} {acc : List Spc} {k : FuncId} {R0 : List Fact} {res : Nat → Res} {pv : Value → Prop} {fc : Value → List Fact} {xs : List Operand} {args : Nat → List Value} {ts : Array TypeId} {d x : Nat} (j : Nat) {oj : Oper}
    (h : ∀ b, FnS P k (args b) [res b] R0 (fun e M' R' => ∃ v, e = .returned v ∧ pv v ∧ M' = [] ∧ R' = fc v)) (ho : o.op = .call { callee := .value (.func k), args := xs.toArray, argTypes := ts })
    (hoj : ops[j]? = some oj) (hx : oj.dst.getD 1000000 = x) (hxe : ∀ b, evs ((x, pt b 0) :: L) xs = some (args b)) (hsj : acc[j]? = some (Spc.al isPt (fun v => [res (blk v)]) acc.length (fun _ => []))) (hdep : depD ops o j = true) (hg : o.guard = none) (hdst : o.dst = some d) (hd : Nat.blt d n = true) (hs : SubR R R0)
    (hr : ParO P W n M R ops K rest (acc ++ [Spc.s5 none pv j none fc]) L) : ParO P W n M R ops K (o :: rest) acc L := by
  refine ⟨Spc.s5 none pv j none fc, by simp [hdst, hd], .inr (.inl ⟨hg, j, oj, _, _, none, _, none, _, rfl, hoj, hsj, rfl, rfl, hdep, fun u hu => ?_⟩), by simpa [addL, Spc.s5] using hr⟩
  obtain ⟨b, rfl⟩ := hu
  rw [hx]
  intro Mx Rx a w h1 h2
  have h2 : St W (Mx ++ ([res b] ++ M)) (Rx ++ R) w := h2
  rw [exec_call [] [] (xs := xs) ho rfl (h1.evs (hxe b)) (h b).enter]
  have h3 : St W ([res b] ++ (Mx ++ M)) (R0 ++ (Rx ++ R)) w := (h2.perm (by
    rw [← List.append_assoc, ← List.append_assoc]
    exact List.perm_append_comm.append_right M)).both (fun φ hφ => List.mem_append_right _ (hs φ hφ))
  rw [List.nil_append, List.append_nil]
  refine ⟨rfl, ((h b).calls W (Mx ++ M) (Rx ++ R) w h3).mono ?_⟩
  rintro e w' ⟨M1, R1, ⟨v, rfl, hv, rfl, rfl⟩, hw'⟩
  refine .inl ⟨v, rfl, hv, hw'.weak (fun φ hφ => ?_)⟩
  rcases List.mem_append.1 hφ with hφ | hφ
  · exact List.mem_append_left _ hφ
  · exact List.mem_append_right _ (List.mem_append_right _ hφ)
theorem f_takeG {X : Act → World → Prop} {os : List Oper} {ss : List Spc} {pv : Value → Prop} {fc : Value → List Fact} {j d : Nat} (hdst : o.dst = some d) (h : ∀ v, pv v → Fin W n D X os ss ((d, v) :: L) M (fc v ++ R)) : Fin W n D X (o :: os) (Spc.s5 none pv j none fc :: ss) L M R := by
  intro v hv
  rw [hdst]; exact h v hv
/-- An operation that uses what an earlier one has come to. -/
theorem p_depU {ops : Array Oper} {K : List Spc → Prop} {rest : List Oper} {acc : List Spc} {d x : Nat} {sj : Spc} {pv : Value → Prop} {fc : Value → List Fact} (j : Nat) (f : Value → Value) {oj : Oper} (hoj : ops[j]? = some oj) (hx : oj.dst.getD 1000000 = x) (hsj : acc[j]? = some sj) (hdj : sj.det = none) (hdep : depD ops o j = true) (hg : o.guard = none) (hdst : o.dst = some d) (hd : Nat.blt d n = true)
    (hp : ∀ u, sj.pval u → pv (f u) ∧ ∀ φ ∈ fc (f u), φ ∈ sj.fct u) (ho : ∀ u, sj.pval u → ∀ Mx Rx, OpQ P W n ((x, u) :: L) (Mx ++ M) (Rx ++ (sj.fct u ++ R)) o (f u)) (h : ParO P W n M R ops K rest (acc ++ [Spc.g pv (fun _ => []) fc]) L) : ParO P W n M R ops K (o :: rest) acc L := by
  subst hx
  refine ⟨Spc.g pv (fun _ => []) fc, by simp [hdst, hd], .inl ⟨rfl, .inr (.inr (.inl ⟨hg, j, oj, sj, hoj, hsj, hdj, hdep, fun u hu => ?_⟩))⟩, by simpa [addL, Spc.g] using h⟩
  intro Mx Rx a w g1 g3
  have g3 : St W (Mx ++ M) (Rx ++ (sj.fct u ++ R)) w := g3
  have hr := OpG.of_q (M := M) (R := sj.fct u ++ R) (v := f u) (ho u hu) Mx Rx a w g1 g3
  generalize (execOp a.eval o).run P w = r at hr
  have conv : ∀ v w', (Spc.q (f u)).val v → St W ((Spc.q (f u)).rs v ++ (Mx ++ M)) ((Spc.q (f u)).fs v ++ (Rx ++ (sj.fct u ++ R))) w' →
      (Spc.g pv (fun _ => []) fc).val v ∧ St W ((Spc.g pv (fun _ => []) fc).rs v ++ (Mx ++ M)) ((Spc.g pv (fun _ => []) fc).fs v ++ (Rx ++ (sj.fct u ++ R))) w' := by
    intro v w' hv hst
    have hv : v = f u := hv
    subst hv
    refine ⟨(hp u hu).1, St.weak hst fun φ hφ => ?_⟩
    have hst : True := trivial
    show φ ∈ [] ++ (Rx ++ (sj.fct u ++ R))
    rcases List.mem_append.1 hφ with h | h
    · have h : φ ∈ fc (f u) := h
      exact List.mem_append_right _ (List.mem_append_right _ (List.mem_append_left _ ((hp u hu).2 φ h)))
    · exact h
  cases r with
  | ok x w' =>
    cases x <;> simp only [upG] at hr ⊢
    · exact conv _ _ hr.1 hr.2
    · exact conv _ _ hr.1 hr.2
    · obtain ⟨rfl, hc⟩ := hr
      refine ⟨rfl, hc.mono ?_⟩
      rintro e w'' (⟨v, rfl, h5, h6⟩ | ⟨c, rfl, hc1, _⟩)
      · exact .inl ⟨v, rfl, (conv _ _ h5 h6).1, (conv _ _ h5 h6).2⟩
      · cases hc1
  | halt x w' => exact hr.elim
theorem frameY_at {free tail : List Oper} {ss : List Spc} (hpb : parB free tail = true) (hl : ss.length = free.length) (hfr : ∀ o ∈ free, look L (o.dst.getD 1000000) = none) (hL : LateOK (free ++ tail).toArray ss) (hab : ∀ (i : Nat) (s : Spc) (c : List PanicEntry), ss[i]? = some s → s.ab = some c → Imp W n D L M R (Q (.panic c)))
    (hstep : ∀ i o s, free[i]? = some o → ss[i]? = some s → Step1 P W n M R (free ++ tail).toArray ss i o s (detL (free.take i) (ss.take i) L))
    {listed : Array Bool} {a : Act} {w : World} (hJ : J W n D L M R (free ++ tail).toArray free ss listed a w) {i : Nat} {o : Oper} (ho : free[i]? = some o) (hp : ∀ e ∈ o.after, Region.binds .any e = true → listed.getD e.on false = true) :
    ∃ a' g, (∀ t, (∀ j p, free[j]? = some p → p.dst.getD 1000000 = t → j < i → listed.getD j false = true) → a'.tmps[t]? = a.tmps[t]?) ∧ FSat n (detL (free.take i) (ss.take i) L) a' ∧ execOp a.eval o = execOp a'.eval o ∧ (∀ i o s, free[i]? = some o → ss[i]? = some s → listed.getD i false = true → s.val (g i) ∧ (∀ d, o.dst = some d → a.tmps[d]? = some (g i))) ∧ St W (resOf ss listed g free.length ++ M) (fctOf ss listed g free.length ++ R) w := by
  simp only [parB, Bool.and_eq_true] at hpb
  obtain ⟨⟨⟨⟨hns, hfree⟩, hnd0⟩, hback⟩, htail⟩ := hpb
  have hnd := injB_sound hnd0
  have hmN : free.length ≤ (free ++ tail).length := by simp
  have hmask : ∀ listed', Closed (free ++ tail).toArray listed' → ∀ i o, free.length ≤ i → (free ++ tail).toArray[i]? = some o → (∀ e ∈ o.after, Region.binds .any e = true → listed'.getD e.on false = true) → ∀ j, j < i → listed'.getD j false = true := by
    intro listed' hc i o hi ho hp j hj
    have hlt : i < (free ++ tail).length := by simpa using (Array.getElem?_eq_some_iff.1 ho).1
    have h1 := List.all_eq_true.1 htail i (List.mem_range.2 hlt)
    simp only [Bool.or_eq_true] at h1
    rcases h1 with h1 | h1
    · have : i < free.length := by simpa using h1
      omega
    · have h2 := List.all_eq_true.1 h1 j (List.mem_range.2 hj)
      exact (masks_sound hc (free ++ tail) [] (fun j => by simp) (fun i hi => by simp at hi)).1 i o (Nat.zero_le _) ho hp j h2
  have hbk : ∀ i o, (free ++ tail).toArray[i]? = some o → ∀ e ∈ o.after, Region.binds .any e = true → e.on < i := by
    intro i o ho e he hbi
    have hlt : i < (free ++ tail).length := by simpa using (Array.getElem?_eq_some_iff.1 ho).1
    have := List.all_eq_true.1 hback i (List.mem_range.2 hlt)
    rw [show (free ++ tail)[i]? = some o from by simpa using ho] at this
    have := Array.all_eq_true_iff_forall_mem.1 this e he
    simpa [hbi] using this
  have him : i < free.length := (List.getElem?_eq_some_iff.1 ho).1
  have hoi : (free ++ tail).toArray[i]? = some o := by
    rw [List.getElem?_toArray, List.getElem?_append_left him]; exact ho
  have hsi : i < ss.length := by omega
  have hs : ss[i]? = some ss[i] := List.getElem?_eq_getElem hsi
  have st := hstep i o ss[i] ho hs
  obtain ⟨fops, fgd⟩ := freeB_spec hfree ho
  obtain ⟨a', f1, f2, f3⟩ := mk_frame (n := n) (free.take i) (ss.take i) hJ.frame (fun j p sj e1 e2 => by
    have hji : j < i := by have := (List.getElem?_eq_some_iff.1 e1).1; simp at this; omega
    rw [List.getElem?_take, if_pos hji] at e1 e2
    exact (hstep j p sj e1 e2).lt) (hnd.take i)
  obtain ⟨g, hg, hS⟩ := hJ.vals
  have hag : ∀ t, (∀ j p, free[j]? = some p → p.dst.getD 1000000 = t → j < i → listed.getD j false = true) → a'.tmps[t]? = a.tmps[t]? := by
    intro t ht
    by_cases hex2 : ∃ (j : Nat) (p : Oper) (s : Spc) (v : Value), (free.take i)[j]? = some p ∧ (ss.take i)[j]? = some s ∧ s.det = some v ∧ p.dst.getD 1000000 = t
    · obtain ⟨j, p, s, v, e1, e2, e3, e4⟩ := hex2
      have hji : j < i := by have := (List.getElem?_eq_some_iff.1 e1).1; simp at this; omega
      have e1' : free[j]? = some p := by rw [List.getElem?_take, if_pos hji] at e1; exact e1
      have e2' : ss[j]? = some s := by rw [List.getElem?_take, if_pos hji] at e2; exact e2
      have hlj := ht j p e1' e4 hji
      obtain ⟨k1, k2⟩ := hg j p s e1' e2' hlj
      have hgv : g j = v := by simpa [Spc.val, e3] using k1
      obtain ⟨dj, hdj⟩ : ∃ d, p.dst = some d := by
        have := (hstep j p s e1' e2').lt
        cases hod : p.dst with
        | none => rw [hod, e3] at this; simp at this
        | some d => exact ⟨d, rfl⟩
      rw [← e4, f3 j p s v e1 e2 e3, show p.dst.getD 1000000 = dj from by simp [hdj], k2 dj hdj, hgv]
    · exact f2 t (fun j p s v e1 e2 e3 e4 => hex2 ⟨j, p, s, v, e1, e2, e3, e4⟩)
  have hev : ∀ x ∈ o.op.operands, a.eval x = a'.eval x := by
    intro x hx
    cases x with
    | tmp t =>
      have := hag t (fun j p e1 e2 _ => by
        obtain ⟨e, he, hbi, hon⟩ := depOn_spec (fops j p e1 (by
          rw [e2]; unfold tmpsOf
          exact List.mem_filterMap.2 ⟨.tmp t, by simpa using hx, rfl⟩))
        have := hp e he hbi
        rwa [hon] at this)
      simp [Act.eval, this]
    | const v => rfl
    | global v => rfl
    | func v => rfl
  have hex3 : execOp a.eval o = execOp a'.eval o := execOp_congr o (Region.noSelect_spec hns i o · · hoi) hev
  exact ⟨a', g, hag, f1, hex3, hg, hS⟩
/-- Those that may be drawn late: what they come to hangs on what stays, and on one that has been carried out. -/
def FlY (Z : World → Prop) (P : Program) (n : Nat) (L : Tm) (free : List Oper) (ss : List Spc) : List Nat → Prop
  | [] => True
  | i :: r => (∃ (o : Oper) (s : Spc) (d : Nat), free[i]? = some o ∧ ss[i]? = some s ∧ o.guard = none ∧ o.dst = some d ∧ Nat.blt d n = true ∧ s.of = none ∧ s.pre = [] ∧ (∀ u, s.rs u = []) ∧
      ((∃ v, s = Spc.q v ∧ ∀ a, FSat n (detL (free.take i) (ss.take i) L) a → ∀ w, Z w → (execOp a.eval o).run P w = .ok (.value v) w) ∨
       (s.det = none ∧ ∃ (j : Nat) (oj : Oper) (sj : Spc) (f : Value → Value), free[j]? = some oj ∧ ss[j]? = some sj ∧ sj.det = none ∧ depOn o j = true ∧ oj.dst.isSome = true ∧
         ∀ u, sj.pval u → s.pval (f u) ∧ (∀ φ ∈ s.fct (f u), φ ∈ sj.fct u) ∧ ∀ a, FSat n ((oj.dst.getD 1000000, u) :: detL (free.take i) (ss.take i) L) a → ∀ w, Z w → (execOp a.eval o).run P w = .ok (.value (f u)) w))) ∧ FlY Z P n L free ss r
theorem FlY.at {free : List Oper} {ss : List Spc} : ∀ {fl : List Nat}, FlY Z P n L free ss fl → ∀ i ∈ fl, (∃ (o : Oper) (s : Spc) (d : Nat), free[i]? = some o ∧ ss[i]? = some s ∧ o.guard = none ∧ o.dst = some d ∧ Nat.blt d n = true ∧ s.of = none ∧ s.pre = [] ∧ (∀ u, s.rs u = []) ∧
      ((∃ v, s = Spc.q v ∧ ∀ a, FSat n (detL (free.take i) (ss.take i) L) a → ∀ w, Z w → (execOp a.eval o).run P w = .ok (.value v) w) ∨
       (s.det = none ∧ ∃ (j : Nat) (oj : Oper) (sj : Spc) (f : Value → Value), free[j]? = some oj ∧ ss[j]? = some sj ∧ sj.det = none ∧ depOn o j = true ∧ oj.dst.isSome = true ∧
         ∀ u, sj.pval u → s.pval (f u) ∧ (∀ φ ∈ s.fct (f u), φ ∈ sj.fct u) ∧ ∀ a, FSat n ((oj.dst.getD 1000000, u) :: detL (free.take i) (ss.take i) L) a → ∀ w, Z w → (execOp a.eval o).run P w = .ok (.value (f u)) w)))
  | [], _, _, h => by cases h
  | j :: r, ⟨h1, h2⟩, i, hi => by
    rcases List.mem_cons.1 hi with rfl | hi
    · exact h1
    · exact FlY.at h2 i hi
theorem floatY_all {fl : List Nat} {m : Nat} {l : List Oper} (hZ : ∀ X F w, St W (X ++ M) (F ++ R) w → Z w) (hml : m ≤ l.length) {ss : List Spc} (hpb : parB ((floatL fl m l).take m) ((floatL fl m l).drop m) = true) (hlen : ss.length = ((floatL fl m l).take m).length) (hfr : ∀ o ∈ (floatL fl m l).take m, look L (o.dst.getD 1000000) = none) (hL : LateOK (floatL fl m l).toArray ss)
    (hab : ∀ (i : Nat) (s : Spc) (c : List PanicEntry), ss[i]? = some s → s.ab = some c → Imp W n D L M R (NoP Q (.panic c)))
    (hstep : ∀ i o s, ((floatL fl m l).take m)[i]? = some o → ss[i]? = some s → Step1 P W n M R (floatL fl m l).toArray ss i o s (detL (((floatL fl m l).take m).take i) (ss.take i) L))
    (hfin : Fin W n D (wpListZ Z P (floatL fl m l).toArray (NoP Q) ((floatL fl m l).drop m)) ((floatL fl m l).take m) ss L M R)
    (hfl : FlY Z P n L ((floatL fl m l).take m) ss fl) (hns : Region.noSelect l.toArray = true) (hbk : backB l = true) (htl : tailF fl (masks l []) m l.length = true) (hfs : freesB l fl = true) :
    ∀ (fuel : Nat) (listed : Array Bool) (a : Act) (w : World), J W n D L M R (floatL fl m l).toArray ((floatL fl m l).take m) ss listed a w → unl l.length listed ≤ fuel → wpAnyZ Z P l.toArray (NoP Q) fuel listed a w := by
  have hflat := hfl.at
  have hFat := floatL_at fl m l
  have hFlen := floatL_len fl m l
  generalize hF : floatL fl m l = F at *
  have hsplit : F.take m ++ F.drop m = F := List.take_append_drop m F
  have hmF : (F.take m).length = m := by rw [List.length_take]; omega
  have hlow : ∀ j, j < m → F[j]? = l[j]? := fun j hj => by
    rw [hFat j]; cases l[j]? with
    | none => rfl
    | some o => simp [hj]
  have hfree : ∀ j, j < m → (F.take m)[j]? = l[j]? := fun j hj => by rw [List.getElem?_take, if_pos hj, hlow j hj]
  have hlate : LateOK (F.take m ++ F.drop m).toArray ss := by rw [hsplit]; exact hL
  have hst' : ∀ i o s, (F.take m)[i]? = some o → ss[i]? = some s → Step1 P W n M R (F.take m ++ F.drop m).toArray ss i o s (detL ((F.take m).take i) (ss.take i) L) := by rw [hsplit]; exact hstep
  have hclosed : ∀ listed, Closed F.toArray listed → Closed l.toArray listed := fun listed hc j o ho hj e he hb => by
    have ho : l[j]? = some o := by simpa using ho
    refine hc j (if j < m then o else addE fl o) (by rw [List.getElem?_toArray, hFat, ho]; rfl) hj e ?_ hb
    split
    · exact he
    · unfold addE; exact Array.mem_append_left _ he
  have hback : ∀ i o, l[i]? = some o → ∀ e ∈ o.after, Region.binds .any e = true → e.on < i := by
    intro i o ho e he hbi
    have hlt : i < l.length := (List.getElem?_eq_some_iff.1 ho).1
    have := List.all_eq_true.1 hbk i (List.mem_range.2 hlt)
    rw [ho] at this
    have := Array.all_eq_true_iff_forall_mem.1 this e he
    simpa [hbi] using this
  intro fuel
  induction fuel with
  | zero =>
    intro listed a w hJ hu
    have hsz : listed.size = l.length := by rw [hJ.size]; simp [hFlen]
    have hall : ∀ i ∈ fl, listed.getD i false = true := fun i hi => by
      obtain ⟨o, v, d, ho, _⟩ := hflat i hi
      have hi' : i < m := by have := (List.getElem?_eq_some_iff.1 ho).1; omega
      cases h : listed.getD i true with
      | true =>
        have : i < listed.size := by omega
        simp [this] at h ⊢; exact h
      | false =>
        have := unl_set (N := l.length) (i := i) (by omega) hsz h
        omega
    refine floatZ_any (fl := fl) (m := m) 0 listed a w hall ?_
    rw [hF, ← hsplit]
    replace hJ : J W n D L M R (F.take m ++ F.drop m).toArray (F.take m) ss listed a w := by rw [hsplit]; exact hJ
    exact parZ_any hZ hpb hlen hfr hlate hab hst' (by rw [hsplit]; exact hfin) 0 listed a w hJ (by rw [hsplit, hFlen]; exact hu)
  | succ fuel ih =>
    intro listed a w hJ hu
    have hsz : listed.size = l.length := by rw [hJ.size]; simp [hFlen]
    have hboth : ∀ j, j < l.length → listed.getD j true = listed.getD j false := fun j hj => by
      have : j < listed.size := by omega
      simp [this]
    by_cases hall : ∀ i ∈ fl, listed.getD i false = true
    · refine floatZ_any (fl := fl) (m := m) (fuel + 1) listed a w hall ?_
      rw [hF, ← hsplit]
      replace hJ : J W n D L M R (F.take m ++ F.drop m).toArray (F.take m) ss listed a w := by rw [hsplit]; exact hJ
      exact parZ_any hZ hpb hlen hfr hlate hab hst' (by rw [hsplit]; exact hfin) (fuel + 1) listed a w hJ (by rw [hsplit, hFlen]; exact hu)
    · by_cases hrd : ∃ i ∈ fl, i ∈ Region.ready .any l.toArray listed
      · obtain ⟨i, hi, hir⟩ := hrd
        obtain ⟨o, s, d, ho, hs, hg, hdst, hdn, hof, hpre0, hrs0, hcase⟩ := hflat i hi
        have him : i < m := by have := (List.getElem?_eq_some_iff.1 ho).1; omega
        have hol : l[i]? = some o := by rw [← hfree i him]; exact ho
        obtain ⟨h0, o', ho', hp⟩ := mem_ready.1 hir
        have ho' : l[i]? = some o' := by simpa using ho'
        rw [hol] at ho'; cases ho'
        have hJ' : J W n D L M R (F.take m ++ F.drop m).toArray (F.take m) ss listed a w := by rw [hsplit]; exact hJ
        obtain ⟨a', g, hag, f1, hex, hgv, hS⟩ := frameY_at hpb hlen hfr hlate hab hst' hJ' ho hp
        have hirF : i ∈ Region.ready .any (F.take m ++ F.drop m).toArray listed := by
          rw [hsplit]
          exact mem_ready.2 ⟨h0, o, by rw [List.getElem?_toArray, hlow i him]; exact hol, hp⟩
        have hnd : Inj (F.take m) := by
          simp only [parB, Bool.and_eq_true] at hpb
          exact injB_sound hpb.1.1.2
        obtain ⟨v, hsv, hfv, hpure⟩ : ∃ v, s.val v ∧ (∀ φ ∈ s.fs v, φ ∈ fctOf ss listed g (F.take m).length) ∧ ∀ w, Z w → (execOp a'.eval o).run P w = .ok (.value v) w := by
          rcases hcase with ⟨v, rfl, hv⟩ | ⟨hsd, j, oj, sj, f, hoj, hsj, hdj, hdep, hsome, hf⟩
          · exact ⟨v, rfl, fun φ hφ => (List.not_mem_nil hφ).elim, hv a' f1⟩
          · obtain ⟨e, he, hbi, hon⟩ := depOn_spec hdep
            have hlj : listed.getD j false = true := by have := hp e he hbi; rwa [hon] at this
            obtain ⟨k1, k2⟩ := hgv j oj sj hoj hsj hlj
            have hpv : sj.pval (g j) := by simpa [Spc.val, hdj] using k1
            obtain ⟨dj, hdj'⟩ := Option.isSome_iff_exists.1 hsome
            have hka : a'.tmps[oj.dst.getD 1000000]? = some (g j) := by
              rw [hag (oj.dst.getD 1000000) (fun j' p e1 e2 _ => by
                have := hnd j j' _ _ hoj e1 hsome e2.symm
                rw [← this]; exact hlj)]
              rw [show oj.dst.getD 1000000 = dj from by simp [hdj']]
              exact k2 dj hdj'
            obtain ⟨q1, q2, q3⟩ := hf (g j) hpv
            refine ⟨f (g j), by simpa [Spc.val, hsd] using q1, fun φ hφ => ?_, q3 a' (f1.add hka)⟩
            unfold fctOf
            refine List.mem_flatMap.2 ⟨j, List.mem_range.2 (List.getElem?_eq_some_iff.1 hoj).1, ?_⟩
            rw [hlj, hsj]
            exact q2 φ hφ
        have hy : YieldsZ Z P l.toArray o v a := ⟨by simp [Region.wanted, hg], fun w hz => by rw [hex]; exact hpure w hz⟩
        refine wpAnyZ_first (i := i) (oi := o) (v := v) (by simpa using hol) (Region.noSelect_spec hns) fuel listed a w (freeAt_spec hol (List.all_eq_true.1 hfs i hi) hp) hir hy ?_
        · have hset : (resOf ss listed g (F.take m).length ++ M).Perm (restOf ss listed g (F.take m).length i ++ M) := by
            refine List.Perm.append_right M (List.Perm.of_eq ?_)
            refine flatMap_same _ _ _ fun j hj => ?_
            by_cases e : j = i
            · subst e
              have : listed.getD j false = false := by rw [← hboth j (by omega)]; exact h0
              rw [if_pos rfl, this, hs]; exact hpre0
            · rw [if_neg e]
          have hS3 : St W (s.rs v ++ (restOf ss listed g (F.take m).length i ++ M)) (s.fs v ++ (fctOf ss listed g (F.take m).length ++ R)) w := by
            rw [hrs0 v]
            refine (hS.perm hset).weak fun φ hφ => ?_
            rcases List.mem_append.1 hφ with hφ | hφ
            · exact List.mem_append_left _ (hfv φ hφ)
            · exact hφ
          have hJn := hJ.next (v := v) (o := o) (s := s) (i := i) (w' := w) hnd hfr (by simp [hFlen, hmF]; omega) (by rw [← hsplit]; exact hirF) (by rw [List.getElem?_toArray, hlow i him]; exact hol) ho hs (by rw [hdst]; exact hdn) hsv hof hL hgv hS3
          refine ih _ _ _ hJn ?_
          have := unl_set (N := l.length) (i := i) (by omega) hsz h0
          omega
      · have hex : ∃ i, (i ∈ fl ∧ listed.getD i false = false) := by
          apply Classical.byContradiction
          intro hne
          refine hall fun i hi => ?_
          cases h : listed.getD i false
          · exact absurd ⟨i, hi, h⟩ hne
          · rfl
        obtain ⟨k, ⟨hk, hkf⟩, hkm⟩ := least hex
        obtain ⟨ok, vk, dk, hok, _⟩ := hflat k hk
        have hkm' : k < m := by have := (List.getElem?_eq_some_iff.1 hok).1; omega
        have hokl : l[k]? = some ok := by rw [← hfree k hkm']; exact hok
        have hlt : ∀ j, j ∈ Region.ready .any l.toArray listed → j < m := by
          intro j hj
          rcases Nat.lt_or_ge j m with h | h
          · exact h
          · exfalso
            obtain ⟨j0, o, hoj, hp⟩ := mem_ready.1 hj
            have hoj' : l[j]? = some o := by simpa using hoj
            have hjl : j < l.length := (List.getElem?_eq_some_iff.1 hoj').1
            have h1 := List.all_eq_true.1 htl j (List.mem_range.2 hjl)
            simp only [Bool.or_eq_true] at h1
            have hnon : ∀ t, t < j → t ∉ fl → listed.getD t false = true := fun t ht hnf => by
              rcases h1 with h1 | h1
              · have : j < m := by simpa using h1
                omega
              · have h2 := List.all_eq_true.1 h1 t (List.mem_range.2 ht)
                simp only [Bool.or_eq_true, List.contains_eq_mem, decide_eq_true_eq] at h2
                rcases h2 with h2 | h2
                · exact absurd h2 hnf
                · exact (masks_sound (ops := l.toArray) (hclosed listed hJ.closed) l [] (fun j => by simp) (fun i hi => by simp at hi)).1 j o (Nat.zero_le _) hoj hp t h2
            refine hrd ⟨k, hk, mem_ready.2 ⟨by rw [hboth k (by omega)]; exact hkf, ok, by simpa using hokl, fun e he hb => ?_⟩⟩
            have hek := hback k ok hokl e he hb
            by_cases hef : e.on ∈ fl
            · cases h : listed.getD e.on false
              · exact absurd ⟨hef, h⟩ (hkm e.on hek)
              · rfl
            · exact hnon e.on (by omega) hef
        refine ⟨(by obtain ⟨g, _, hS⟩ := hJ.vals; exact hZ _ _ w hS), fun hr => ?_, fun j hj => ?_⟩
        · exfalso
          have hex2 : ∃ t, t < l.length ∧ listed.getD t false = false := ⟨k, by omega, hkf⟩
          obtain ⟨t, ⟨ht, htf⟩, htm⟩ := least hex2
          have : t ∈ Region.ready .any l.toArray listed := mem_ready.2 ⟨by rw [hboth t ht]; exact htf, l[t], by simp, fun e he hb => by
            have hlt2 := hback t l[t] (List.getElem?_eq_getElem ht) e he hb
            cases h : listed.getD e.on false
            · exact absurd ⟨by omega, h⟩ (htm e.on hlt2)
            · rfl⟩
          rw [hr] at this; cases this
        · have hjm := hlt j hj
          obtain ⟨j0, o, hoj, hp⟩ := mem_ready.1 hj
          have hoj' : l[j]? = some o := by simpa using hoj
          refine float_op (fl := fl) (m := m) ?_
          rw [hF, ← hsplit]
          replace hJ : J W n D L M R (F.take m ++ F.drop m).toArray (F.take m) ss listed a w := by rw [hsplit]; exact hJ
          refine par_step hpb hlen hfr hlate hab hst' hJ (mem_ready.2 ⟨j0, o, ?_, hp⟩) (by omega) _ fun a' w' hJ' => ih _ _ _ (by rw [hsplit] at hJ'; exact hJ') ?_
          · rw [List.getElem?_toArray, hsplit, hlow j hjm]; exact hoj'
          · have := unl_set (N := l.length) (i := j) (by have := (List.getElem?_eq_some_iff.1 hoj').1; omega) hsz j0
            omega
theorem r_parY {id : Nat} {l : List Oper} (Z : World → Prop) (hZ : ∀ X F w, St W (X ++ M) (F ++ R) w → Z w) (fl : List Nat) (m : Nat) (hml : Nat.ble m l.length = true) (hns : Region.noSelect l.toArray = true) (hbk : backB l = true) (htl : tailF fl (masks l []) m l.length = true) (hfs : freesB l fl = true)
    (hm : P.follows .mixedOrders = true) (hpb : parB ((floatL fl m l).take m) ((floatL fl m l).drop m) = true) (hfr : freshB L ((floatL fl m l).take m) = true)
    (h : ParO P W n M R (floatL fl m l).toArray (fun ss => FlY Z P n L ((floatL fl m l).take m) ss fl ∧ preOf ss = [] ∧ lateX (floatL fl m l).toArray ss = true ∧ Fin W n D (wpListZ Z P (floatL fl m l).toArray (NoP Q) ((floatL fl m l).drop m)) ((floatL fl m l).take m) ss L M R) ((floatL fl m l).take m) [] L) : Imp W n D L M R ((Code.region id l.toArray true).wp P Q) := by
  have hml : m ≤ l.length := by simpa using hml
  intro a w h1 h2 h3
  refine Code.wp_mono (Q := NoP Q) (fun e a' w' he => ?_) ?_
  · cases e with
    | normal => exact he
    | _ => exact he.elim
  refine wp_region_any hm ?_
  obtain ⟨ss, hl, ⟨hsi, hpre, hlx, hfin⟩, hs⟩ := ParO.out ((floatL fl m l).take m) [] L h
  rw [List.nil_append] at hsi hpre hlx hfin
  have hLB : lateB (floatL fl m l).toArray ss 0 ss = true := by simp only [lateX, Bool.and_eq_true] at hlx; exact hlx.1
  have hlk : ∀ o ∈ (floatL fl m l).take m, look L (o.dst.getD 1000000) = none := fun o ho => by
    have := List.all_eq_true.1 hfr o ho
    simpa using this
  refine (floatY_all hZ hml hpb hl hlk (lateOK_of hLB) (fun k s c e1 e2 => (lateX_ab hlx k s c e1 e2).elim) (fun k o s e1 e2 => by
    have := hs k o s e1 e2
    rw [List.nil_append, List.length_nil, Nat.zero_add] at this
    exact this) hfin hsi hns hbk htl hfs _ _ _ _ ⟨?_, ?_, ?_, h1, h2, fun _ => undef, ?_, ?_⟩ ?_).any
  · simp [floatL_len]
  · intro j o _ hj
    rw [rep_false] at hj; cases hj
  · intro t _ ht
    have : t < l.length := by simpa [floatL_len] using ht
    simp [this]
  · intro i o s e1 _ hj
    rw [rep_false] at hj; cases hj
  · have e1 : resOf ss (Array.replicate l.toArray.size false) (fun _ => undef) ((floatL fl m l).take m).length = [] := by
      rw [← hpre, ← preOf_range, hl]
      refine flatMap_same _ _ _ fun j hj => ?_
      rw [rep_false]; rfl
    have e2 : ∀ k, fctOf ss (Array.replicate l.toArray.size false) (fun _ => undef) k = [] := by
      intro k
      unfold fctOf
      induction k with
      | zero => rfl
      | succ k ih => rw [List.range_succ, List.flatMap_append, ih, List.nil_append, List.flatMap_cons, List.flatMap_nil, List.append_nil, rep_false]; rfl
    rw [e1, e2]
    exact h3.heap rfl rfl rfl rfl
  · have := unl_tail (N := l.length) (m := 0) (listed := Array.replicate l.length false) (fun i hi => by omega)
    simpa using this
/-- What waits for one that panics is never carried out: it hands back nothing. -/
theorem p_deadS {ops : Array Oper} {K : List Spc → Prop} {rest : List Oper} {acc : List Spc} {sj : Spc} (j : Nat) {oj : Oper} (hoj : ops[j]? = some oj) (hsj : acc[j]? = some sj) (hdj : sj.det = none) (hF : ∀ u, ¬ sj.pval u) (hdep : depD ops o j = true) (hg : o.guard = none) (hdst : o.dst = none)
    (hr : ParO P W n M R ops K rest (acc ++ [Spc.g (fun _ => False) (fun _ => []) (fun _ => [])]) L) : ParO P W n M R ops K (o :: rest) acc L :=
  ⟨Spc.g (fun _ => False) (fun _ => []) (fun _ => []), by simp [hdst, Spc.g], .inl ⟨rfl, .inr (.inr (.inl ⟨hg, j, oj, sj, hoj, hsj, hdj, hdep, fun u hu => absurd hu (hF u)⟩))⟩, by simpa [addL, Spc.g] using hr⟩
end Go.G


namespace Go.Proofs.YtpfgiednfjfdmaaDoor
open Go.G Debt10
set_option maxRecDepth 1000000
attribute [local irreducible] G.ParO G.Fin
/-- What is left of a person, and what would settle it. -/
def leftT (D : Debt) (who : Int) (d : Nat) : Debt10.Span := ⟨total (progA D 0 who (d + 1)).1, total (progA D 1 who (d + 1)).1⟩
def needT (D : Debt) (who : Int) (d : Nat) : Int := total (progB D 1 who d).1
def aheadT (D : Debt) (who : Int) (d : Nat) : Debt10.Span := ⟨(progA D 1 who (d + 1)).2, (progA D 0 who (d + 1)).2⟩
def gradeS (s : Debt10.Span) : Int := if s.hi = 0 then 2 else if s.lo = 0 then 1 else 0
def setT (l : List Opn) : Nat := setK l l.length
@[reducible] def vT (v w : Value) : Value := .tuple #[v, w]
abbrev Wh := Option Addr × Nat
variable (D : Debt) (uo po : Option Addr) (uc pc : Nat)
variable (lb mb : Nat)
theorem account_A (G : Cont) (who : Int) (e d : Nat) (hg : GoodD D) (hw : -1000 ≤ who ∧ who ≤ 1000) (he : e < 2) (hk : d ≤ 30) : FnS Tryd.prog 74 [pt lb 0, .agg #[i64 who, i64 (e : Int), i64 (d : Int), .bool true]] [mapG Tryd.prog 113 mb G] [entF D G, boxF lb 108 [i64 D.people, .slice uo D.dues.length uc, .slice po D.paid.length pc, .map (some mb)], rowD uo 5 encD D.dues, rowD po 4 encP D.paid, rowD (some ⟨0, 0, none⟩) 1 encE ([0, 1] : List Nat)] (fun ed M' R' => ∃ x : Cont × Option Addr × Nat, ed = .returned (vA x.2.1 (progA D e who (d + 1)).1.length x.2.2 (progA D e who (d + 1)).2) ∧ True ∧ M' = [mapG Tryd.prog 113 mb x.1] ∧ R' = [entF D x.1, rowD x.2.1 4 encO (progA D e who (d + 1)).1]) := account_s D uo po uc pc lb mb G who e d true hg hw he hk
theorem account_B (G : Cont) (who : Int) (e d : Nat) (hg : GoodD D) (hw : -1000 ≤ who ∧ who ≤ 1000) (he : e < 2) (hk : d ≤ 30) : FnS Tryd.prog 74 [pt lb 0, .agg #[i64 who, i64 (e : Int), i64 (d : Int), .bool false]] [mapG Tryd.prog 113 mb G] [entF D G, boxF lb 108 [i64 D.people, .slice uo D.dues.length uc, .slice po D.paid.length pc, .map (some mb)], rowD uo 5 encD D.dues, rowD po 4 encP D.paid, rowD (some ⟨0, 0, none⟩) 1 encE ([0, 1] : List Nat)] (fun ed M' R' => ∃ x : Cont × Option Addr × Nat, ed = .returned (vA x.2.1 (progB D e who d).1.length x.2.2 (progB D e who d).2) ∧ True ∧ M' = [mapG Tryd.prog 113 mb x.1] ∧ R' = [entF D x.1, rowD x.2.1 4 encO (progB D e who d).1]) := account_s D uo po uc pc lb mb G who e d false hg hw he hk
set_option maxHeartbeats 4000000 in
theorem both_s (G : Cont) (who : Int) (d : Nat) (hg : GoodD D) (hw : -1000 ≤ who ∧ who ≤ 1000) (hk : d ≤ 30) : FnS Tryd.prog 52 [pt lb 0, i64 who, i64 (d : Int)] [mapG Tryd.prog 113 mb G] [entF D G, boxF lb 108 [i64 D.people, .slice uo D.dues.length uc, .slice po D.paid.length pc, .map (some mb)], rowD uo 5 encD D.dues, rowD po 4 encP D.paid, rowD (some ⟨0, 0, none⟩) 1 encE ([0, 1] : List Nat)] (fun ed M' R' => ∃ x : Cont × Wh × Wh, ed = .returned (vT (vA x.2.1.1 (progA D 0 who (d + 1)).1.length x.2.1.2 (progA D 0 who (d + 1)).2) (vA x.2.2.1 (progA D 1 who (d + 1)).1.length x.2.2.2 (progA D 1 who (d + 1)).2)) ∧ True ∧ M' = [mapG Tryd.prog 113 mb x.1] ∧ R' = [entF D x.1, rowD x.2.1.1 4 encO (progA D 0 who (d + 1)).1, rowD x.2.2.1 4 encO (progA D 1 who (d + 1)).1]) := by
  refine FnS.intro1 Tryd.call52 Tryd.func52 rfl Tryd.ntmps52 rfl ?_
  intro W M Rf
  refine r_seq ?_
  refine r_region ?_
  refine o_alloc rfl inf77 rfl rfl rfl rfl rfl (fun b6 => ?_)
  refine o_alloc rfl inf77 rfl rfl rfl rfl rfl (fun b7 => ?_)
  refine o_nil ?_
  repeat (first | with_reducible refine r_then ?_ | with_reducible refine r_in_normal ?_ | with_reducible refine r_sc_normal ?_)
  refine r_seq ?_
  refine r_region ?_
  refine o_q _ rfl rfl rfl (v_move rfl rfl) ?_
  refine o_q _ rfl rfl rfl (v_move rfl rfl) ?_
  refine o_q _ rfl rfl rfl (v_move rfl rfl) ?_
  refine o_q _ rfl rfl rfl (v_bS rfl Tryd.underlying113 inf113 plt113 rfl rfl rfl (by repeat (first | exact trivial | refine ⟨rfl, ?_⟩)) (by rfl)) ?_
  refine o_fnX (account_A D uo po uc pc lb mb G who 0 d hg hw (by decide) hk) rfl rfl rfl rfl rfl SubRC.sub (fun x12 _ => ?_)
  refine o_q _ rfl rfl rfl (v_move rfl rfl) ?_
  refine o_q _ rfl rfl rfl (v_move rfl rfl) ?_
  refine o_q _ rfl rfl rfl (v_move rfl rfl) ?_
  refine o_q _ rfl rfl rfl (v_bS rfl Tryd.underlying113 inf113 plt113 rfl rfl rfl (by repeat (first | exact trivial | refine ⟨rfl, ?_⟩)) (by rfl)) ?_
  refine o_fnX (account_A D uo po uc pc lb mb x12.1 who 1 d hg hw (by decide) hk) rfl rfl rfl rfl rfl SubRC.sub (fun x17 _ => ?_)
  refine o_st rfl inf77 rfl rfl rfl rfl rfl rfl rfl rfl ?_
  refine o_st rfl inf77 rfl rfl rfl rfl rfl rfl rfl rfl ?_
  refine o_nil ?_
  repeat (first | with_reducible refine r_then ?_ | with_reducible refine r_in_normal ?_ | with_reducible refine r_sc_normal ?_)
  refine r_ret ?_
  repeat (first | with_reducible refine r_then_ret ?_ | with_reducible refine r_in_ret ?_ | with_reducible refine r_sc_ret ?_)
  refine Imp.box_to b6 [.slice x12.2.1 (progA D 0 who (d + 1)).1.length x12.2.2, i64 (progA D 0 who (d + 1)).2] rfl ?_
  refine Imp.box_to b7 [.slice x17.2.1 (progA D 1 who (d + 1)).1.length x17.2.2, i64 (progA D 1 who (d + 1)).2] rfl ?_
  exact r_rete [mapG Tryd.prog 113 mb x17.1] [entF D x17.1, rowD x12.2.1 4 encO (progA D 0 who (d + 1)).1, rowD x17.2.1 4 encO (progA D 1 who (d + 1)).1] (Rd.two rfl (RdI.cellW Tryd.underlying77 rfl inf77 rfl rfl) (RdI.cellW Tryd.underlying77 rfl inf77 rfl rfl)) ⟨(x17.1, x12.2, x17.2), rfl, trivial, rfl, rfl⟩ SelMC.sel SubRC.sub
set_option maxHeartbeats 4000000 in
theorem left_s (G : Cont) (who : Int) (d : Nat) (hg : GoodD D) (hw : -1000 ≤ who ∧ who ≤ 1000) (hk : d ≤ 30) : FnS Tryd.prog 47 [pt lb 0, i64 who, i64 (d : Int)] [mapG Tryd.prog 113 mb G] [entF D G, boxF lb 108 [i64 D.people, .slice uo D.dues.length uc, .slice po D.paid.length pc, .map (some mb)], rowD uo 5 encD D.dues, rowD po 4 encP D.paid, rowD (some ⟨0, 0, none⟩) 1 encE ([0, 1] : List Nat)] (fun ed M' R' => ∃ x : Cont, ed = .returned (vS (leftT D who d)) ∧ True ∧ M' = [mapG Tryd.prog 113 mb x] ∧ R' = [entF D x]) := by
  refine FnS.intro1 Tryd.call47 Tryd.func47 rfl Tryd.ntmps47 rfl ?_
  intro W M Rf
  refine r_seq ?_
  refine r_region ?_
  refine o_alloc rfl inf29 rfl rfl rfl rfl rfl (fun b6 => ?_)
  refine o_nil ?_
  repeat (first | with_reducible refine r_then ?_ | with_reducible refine r_in_normal ?_ | with_reducible refine r_sc_normal ?_)
  refine r_seq ?_
  refine r_region ?_
  refine o_q _ rfl rfl rfl (v_move rfl rfl) ?_
  refine o_q _ rfl rfl rfl (v_move rfl rfl) ?_
  refine o_q _ rfl rfl rfl (v_move rfl rfl) ?_
  refine o_fnX (both_s D uo po uc pc lb mb G who d hg hw hk) rfl rfl rfl rfl rfl SubRC.sub (fun x13 _ => ?_)
  refine o_q _ rfl rfl rfl (v_move rfl rfl) ?_
  refine o_q _ rfl rfl rfl (v_extract rfl rfl rfl) ?_
  refine o_q _ rfl rfl rfl (v_extract rfl rfl rfl) ?_
  refine o_alloc rfl inf77 rfl rfl rfl rfl rfl (fun b7 => ?_)
  refine o_alloc rfl inf77 rfl rfl rfl rfl rfl (fun b8 => ?_)
  refine o_st rfl inf77 rfl rfl rfl rfl rfl rfl rfl rfl ?_
  refine o_st rfl inf77 rfl rfl rfl rfl rfl rfl rfl rfl ?_
  refine o_nil ?_
  repeat (first | with_reducible refine r_then ?_ | with_reducible refine r_in_normal ?_ | with_reducible refine r_sc_normal ?_)
  refine r_seq ?_
  refine Imp.box_to b7 [.slice x13.2.1.1 (progA D 0 who (d + 1)).1.length x13.2.1.2, i64 (progA D 0 who (d + 1)).2] rfl ?_
  refine Imp.box_to b8 [.slice x13.2.2.1 (progA D 1 who (d + 1)).1.length x13.2.2.2, i64 (progA D 1 who (d + 1)).2] rfl ?_
  refine r_par' 3 mixed (by kernel_rfl) (by rfl) ?_
  first | refine p_q _ rfl rfl rfl (fun _ _ => v_ldW rfl Tryd.underlying77 rfl inf77 rfl rfl) ?_ | refine p_q _ rfl rfl rfl (fun _ _ => v_lfW rfl Tryd.underlying77 rfl inf77 rfl rfl) ?_ | refine p_q _ rfl rfl rfl (fun _ _ => v_lfN rfl Tryd.underlying77 rfl inf77 rfl rfl rfl) ?_ | refine p_q _ rfl rfl rfl (fun _ _ => v_ldN rfl Tryd.underlying77 rfl inf77 rfl rfl rfl) ?_ | refine p_q _ rfl rfl rfl (fun _ _ => v_loadEN rfl Tryd.underlying77 rfl inf77 rfl (by omega) rfl rfl rfl) ?_
  refine p_q _ rfl rfl rfl (fun _ _ => OpQ.fn (left_v (progA D 0 who (d + 1)).1 x13.2.1.1 x13.2.1.2 (progA D 0 who (d + 1)).2 (by have := prog_lenA hg 0 who (d + 1); omega) (fun y hy => by have := ((prog_bd hg 0 who (d + 1) (by omega)).1 y hy).1; omega)) rfl rfl SubRC.sub) ?_
  first | refine p_q _ rfl rfl rfl (fun _ _ => v_ldW rfl Tryd.underlying77 rfl inf77 rfl rfl) ?_ | refine p_q _ rfl rfl rfl (fun _ _ => v_lfW rfl Tryd.underlying77 rfl inf77 rfl rfl) ?_ | refine p_q _ rfl rfl rfl (fun _ _ => v_lfN rfl Tryd.underlying77 rfl inf77 rfl rfl rfl) ?_ | refine p_q _ rfl rfl rfl (fun _ _ => v_ldN rfl Tryd.underlying77 rfl inf77 rfl rfl rfl) ?_ | refine p_q _ rfl rfl rfl (fun _ _ => v_loadEN rfl Tryd.underlying77 rfl inf77 rfl (by omega) rfl rfl rfl) ?_
  refine p_nil2 (by simp only [List.nil_append, List.cons_append]; rfl) rfl ?_
  refine f_q rfl ?_
  refine f_q rfl ?_
  refine f_q rfl ?_
  refine f_nil ?_
  refine o_q _ rfl rfl rfl (OpQ.fn (left_v (progA D 1 who (d + 1)).1 x13.2.2.1 x13.2.2.2 (progA D 1 who (d + 1)).2 (by have := prog_lenA hg 1 who (d + 1); omega) (fun y hy => by have := ((prog_bd hg 1 who (d + 1) (by omega)).1 y hy).1; omega)) rfl rfl SubRC.sub) ?_
  refine o_q _ rfl rfl rfl (v_bS rfl Tryd.underlying29 inf29 plt29 rfl rfl rfl (by repeat (first | exact trivial | refine ⟨rfl, ?_⟩)) (by rfl)) ?_
  refine o_st rfl inf29 rfl rfl rfl rfl rfl rfl rfl rfl ?_
  refine o_nil ?_
  repeat (first | with_reducible refine r_then ?_ | with_reducible refine r_in_normal ?_ | with_reducible refine r_sc_normal ?_)
  refine r_ret ?_
  repeat (first | with_reducible refine r_then_ret ?_ | with_reducible refine r_in_ret ?_ | with_reducible refine r_sc_ret ?_)
  refine Imp.box_to b6 [i64 (leftT D who d).lo, i64 (leftT D who d).hi] rfl ?_
  exact r_rete [mapG Tryd.prog 113 mb x13.1] [entF D x13.1] (Rd.one rfl (RdI.cellW Tryd.underlying29 rfl inf29 rfl rfl)) ⟨x13.1, rfl, trivial, rfl, rfl⟩ SelMC.sel SubRC.sub
set_option maxHeartbeats 4000000 in
theorem need_s (G : Cont) (who : Int) (d : Nat) (hg : GoodD D) (hw : -1000 ≤ who ∧ who ≤ 1000) (hk : d ≤ 30) : FnS Tryd.prog 56 [pt lb 0, i64 who, i64 (d : Int)] [mapG Tryd.prog 113 mb G] [entF D G, boxF lb 108 [i64 D.people, .slice uo D.dues.length uc, .slice po D.paid.length pc, .map (some mb)], rowD uo 5 encD D.dues, rowD po 4 encP D.paid, rowD (some ⟨0, 0, none⟩) 1 encE ([0, 1] : List Nat)] (fun ed M' R' => ∃ x : Cont, ed = .returned (i64 (needT D who d)) ∧ True ∧ M' = [mapG Tryd.prog 113 mb x] ∧ R' = [entF D x]) := by
  refine FnS.intro1 Tryd.call56 Tryd.func56 rfl Tryd.ntmps56 rfl ?_
  intro W M Rf
  refine r_seq ?_
  refine r_region ?_
  refine o_q _ rfl rfl rfl (v_assign rfl rfl) ?_
  refine o_nil ?_
  repeat (first | with_reducible refine r_then ?_ | with_reducible refine r_in_normal ?_ | with_reducible refine r_sc_normal ?_)
  refine r_seq ?_
  refine r_region ?_
  refine o_q _ rfl rfl rfl (v_move rfl rfl) ?_
  refine o_q _ rfl rfl rfl (v_move rfl rfl) ?_
  refine o_q _ rfl rfl rfl (v_move rfl rfl) ?_
  refine o_q _ rfl rfl rfl (v_bS rfl Tryd.underlying113 inf113 plt113 rfl rfl rfl (by repeat (first | exact trivial | refine ⟨rfl, ?_⟩)) (by rfl)) ?_
  refine o_fnX (account_B D uo po uc pc lb mb G who 1 d hg hw (by decide) hk) rfl rfl rfl rfl rfl SubRC.sub (fun x11 _ => ?_)
  refine o_q _ rfl rfl rfl (OpQ.fn (left_v (progB D 1 who d).1 x11.2.1 x11.2.2 (progB D 1 who d).2 (by have := prog_lenB hg 1 who d; omega) (fun y hy => by have := ((prog_bdB hg 1 who d (by omega)).1 y hy).1; omega)) rfl rfl SubRC.sub) ?_
  refine o_q _ rfl rfl rfl (v_assign rfl rfl) ?_
  refine o_nil ?_
  repeat (first | with_reducible refine r_then ?_ | with_reducible refine r_in_normal ?_ | with_reducible refine r_sc_normal ?_)
  refine r_ret ?_
  repeat (first | with_reducible refine r_then_ret ?_ | with_reducible refine r_in_ret ?_ | with_reducible refine r_sc_ret ?_)
  exact r_rete [mapG Tryd.prog 113 mb x11.1] [entF D x11.1] (Rd.tmp rfl rfl) ⟨x11.1, rfl, trivial, rfl, rfl⟩ SelMC.sel SubRC.sub
/-- A ledger that has just been laid. -/
theorem opened {W : World} {n : Nat} {Df : List Deferred} {L : Tm} {M M' : List Res} {R : List Fact} {X : Act → World → Prop} [hM : DelC M (ledR D uo po uc pc lb) M']
    (h : ∀ mb, Imp W n Df L (mapG Tryd.prog 113 mb (fun _ => none) :: M') (entF D (fun _ => none) :: boxF lb 108 [i64 D.people, .slice uo D.dues.length uc, .slice po D.paid.length pc, .map (some mb)] :: R) X) : Imp W n Df L M R X := by
  have h2 : Imp W n Df L (ledR D uo po uc pc lb :: M') R X := by
    refine Imp.unpk (fun mb => ?_)
    show Imp W n Df L (mapG Tryd.prog 113 mb (fun _ => none) :: bx lb 108 [i64 D.people, .slice uo D.dues.length uc, .slice po D.paid.length pc, .map (some mb)] :: M') R X
    refine Imp.sealB lb ?_
    refine Imp.derive (ψ := entF D (fun _ => none)) (h mb) (fun V _ => ?_)
    intro who e d g v hv; cases hv
  exact fun a w h1 h3 h4 => h2 a w h1 h3 (h4.perm hM.del.perm)
theorem led_left (who : Int) (d : Nat) (hg : GoodD D) (hw : -1000 ≤ who ∧ who ≤ 1000) (hk : d ≤ 30) (b : Nat) : FnS Tryd.prog 47 [pt b 0, i64 who, i64 (d : Int)] [ledR D uo po uc pc b] [rowD uo 5 encD D.dues, rowD po 4 encP D.paid, rowD (some ⟨0, 0, none⟩) 1 encE ([0, 1] : List Nat)] (fun e M' R' => e = .returned (vS (leftT D who d)) ∧ M' = [] ∧ R' = []) := by
  refine ⟨Tryd.call47, fun W M Rf w hw' => Imp.run (Z := fun w => Calls Tryd.prog 47 ([pt b 0, i64 who, i64 (d : Int)] : List Value).toArray w _) ?_ hw'⟩
  show Imp W 0 [] [] (ledR D uo po uc pc b :: M) _ _
  refine opened D uo po uc pc b (fun mb => ?_)
  intro a w' _ _ h
  refine ((left_s D uo po uc pc b mb (fun _ => none) who d hg hw hk).calls W M _ w' (h.both SubRC.sub)).mono ?_
  rintro e w2 ⟨M1, R1, ⟨x, rfl, _, rfl, rfl⟩, h5⟩
  exact ⟨[], [], ⟨rfl, rfl, rfl⟩, (St.drop (r := mapG Tryd.prog 113 mb x) h5).weak (fun φ hφ => List.mem_append_right _ (List.mem_append_right _ (List.mem_cons_of_mem _ (List.mem_cons_of_mem _ hφ))))⟩
theorem led_need (who : Int) (d : Nat) (hg : GoodD D) (hw : -1000 ≤ who ∧ who ≤ 1000) (hk : d ≤ 30) (b : Nat) : FnS Tryd.prog 56 [pt b 0, i64 who, i64 (d : Int)] [ledR D uo po uc pc b] [rowD uo 5 encD D.dues, rowD po 4 encP D.paid, rowD (some ⟨0, 0, none⟩) 1 encE ([0, 1] : List Nat)] (fun e M' R' => e = .returned (i64 (needT D who d)) ∧ M' = [] ∧ R' = []) := by
  refine ⟨Tryd.call56, fun W M Rf w hw' => Imp.run (Z := fun w => Calls Tryd.prog 56 ([pt b 0, i64 who, i64 (d : Int)] : List Value).toArray w _) ?_ hw'⟩
  show Imp W 0 [] [] (ledR D uo po uc pc b :: M) _ _
  refine opened D uo po uc pc b (fun mb => ?_)
  intro a w' _ _ h
  refine ((need_s D uo po uc pc b mb (fun _ => none) who d hg hw hk).calls W M _ w' (h.both SubRC.sub)).mono ?_
  rintro e w2 ⟨M1, R1, ⟨x, rfl, _, rfl, rfl⟩, h5⟩
  exact ⟨[], [], ⟨rfl, rfl, rfl⟩, (St.drop (r := mapG Tryd.prog 113 mb x) h5).weak (fun φ hφ => List.mem_append_right _ (List.mem_append_right _ (List.mem_cons_of_mem _ (List.mem_cons_of_mem _ hφ))))⟩
def fstT : Value → Value
  | .tuple a => a.getD 0 undef
  | _ => undef
def sndT : Value → Value
  | .tuple a => a.getD 1 undef
  | _ => undef
def isA (P : List Opn × Int) (v : Value) : Prop := ∃ oa c, v = vA oa P.1.length c P.2
def facA (P : List Opn × Int) (v : Value) : List Fact := [rowD (adrAt v 0) 4 encO P.1]
def isAA (P Q : List Opn × Int) (v : Value) : Prop := ∃ x y, isA P x ∧ isA Q y ∧ v = vT x y
def facAA (P Q : List Opn × Int) (v : Value) : List Fact := [rowD (adrAt (fstT v) 0) 4 encO P.1, rowD (adrAt (sndT v) 0) 4 encO Q.1]
theorem led_both (who : Int) (d : Nat) (hg : GoodD D) (hw : -1000 ≤ who ∧ who ≤ 1000) (hk : d ≤ 30) (b : Nat) : FnS Tryd.prog 52 [pt b 0, i64 who, i64 (d : Int)] [ledR D uo po uc pc b] [rowD uo 5 encD D.dues, rowD po 4 encP D.paid, rowD (some ⟨0, 0, none⟩) 1 encE ([0, 1] : List Nat)] (fun e M' R' => ∃ v, e = .returned v ∧ isAA (progA D 0 who (d + 1)) (progA D 1 who (d + 1)) v ∧ M' = [] ∧ R' = facAA (progA D 0 who (d + 1)) (progA D 1 who (d + 1)) v) := by
  refine ⟨Tryd.call52, fun W M Rf w hw' => Imp.run (Z := fun w => Calls Tryd.prog 52 ([pt b 0, i64 who, i64 (d : Int)] : List Value).toArray w _) ?_ hw'⟩
  show Imp W 0 [] [] (ledR D uo po uc pc b :: M) _ _
  refine opened D uo po uc pc b (fun mb => ?_)
  intro a w' _ _ h
  refine ((both_s D uo po uc pc b mb (fun _ => none) who d hg hw hk).calls W M _ w' (h.both SubRC.sub)).mono ?_
  rintro e w2 ⟨M1, R1, ⟨x, rfl, _, rfl, rfl⟩, h5⟩
  refine ⟨[], _, ⟨_, rfl, ⟨_, _, ⟨_, _, rfl⟩, ⟨_, _, rfl⟩, rfl⟩, rfl, rfl⟩, (St.drop (r := mapG Tryd.prog 113 mb x.1) h5).weak (fun φ hφ => ?_)⟩
  rcases List.mem_append.1 hφ with hφ | hφ
  · exact List.mem_append_left _ (List.mem_cons_of_mem _ hφ)
  · exact List.mem_append_right _ (List.mem_append_right _ (List.mem_cons_of_mem _ (List.mem_cons_of_mem _ hφ)))
end Go.Proofs.YtpfgiednfjfdmaaDoor


namespace Go.Proofs.YtpfgiednfjfdmaaDoor
open Go.G Debt10
set_option maxRecDepth 1000000
attribute [local irreducible] G.ParO G.Fin
/-- Why nothing is known; 0: it is. -/
def chkD (D : Debt) (v : Bool) : Int := if GoodD D then (if v then 0 else 2) else 1
theorem chkD_1 {D : Debt} {v : Bool} (h : ¬ GoodD D) : chkD D v = 1 := if_neg h
theorem chkD_2 {D : Debt} {v : Bool} (h : GoodD D) (hv : v = false) : chkD D v = 2 := by unfold chkD; rw [if_pos h, hv]; rfl
theorem chkD_0 {D : Debt} {v : Bool} (h : GoodD D) (hv : v = true) : chkD D v = 0 := by unfold chkD; rw [if_pos h, hv]; rfl
def ansD {α : Type} (D : Debt) (v : Bool) (z x : α) : α × Int := if chkD D v = 0 then (x, 0) else (z, chkD D v)
theorem ansD_0 {α : Type} {D : Debt} {v : Bool} {z x : α} (h : chkD D v = 0) : ansD D v z x = (x, 0) := if_pos h
theorem ansD_n {α : Type} {D : Debt} {v : Bool} {z x : α} {e : Int} (h : chkD D v = e) (he : e ≠ 0) : ansD D v z x = (z, e) := by unfold ansD; rw [h, if_neg he]
abbrev okWD (D : Debt) (who d : Int) : Bool := isW D who && isDy d
def leftB (D : Debt) (who d : Int) : Debt10.Span × Int := ansD D (okWD D who d) ⟨0, 0⟩ (leftT D who d.toNat)
def needB (D : Debt) (who d : Int) : Int × Int := ansD D (okWD D who d) 0 (needT D who d.toNat)
def setlB (D : Debt) (who d : Int) : Int × Int := ansD D (okWD D who d) 0 (gradeS (leftT D who d.toNat))
def aheadB (D : Debt) (who d : Int) : Debt10.Span × Int := ansD D (okWD D who d) ⟨0, 0⟩ (aheadT D who d.toNat)
def openB (D : Debt) (who d : Int) : (Nat × Nat) × Int := ansD D (okWD D who d) (0, 0) (setT (progA D 0 who (d.toNat + 1)).1, setT (progA D 1 who (d.toNat + 1)).1)
theorem okT {D : Debt} {who d : Int} (h1 : isW D who = true) (h2 : isDy d = true) : okWD D who d = true := by unfold okWD; rw [h1, h2]; rfl
theorem okF1 {D : Debt} {who d : Int} (h1 : isW D who = false) : okWD D who d = false := by unfold okWD; rw [h1]; rfl
theorem okF2 {D : Debt} {who d : Int} (h2 : isDy d = false) : okWD D who d = false := by unfold okWD; rw [h2, Bool.and_false]
theorem grade_2 {s : Debt10.Span} (h : s.hi = 0) : gradeS s = 2 := if_pos h
theorem grade_1 {s : Debt10.Span} (h : ¬ s.hi = 0) (h2 : s.lo = 0) : gradeS s = 1 := by unfold gradeS; rw [if_neg h, if_pos h2]
theorem grade_0 {s : Debt10.Span} (h : ¬ s.hi = 0) (h2 : ¬ s.lo = 0) : gradeS s = 0 := by unfold gradeS; rw [if_neg h, if_neg h2]
variable (D : Debt) (uo po : Option Addr) (uc pc : Nat)
set_option maxHeartbeats 4000000 in
theorem left14_x1a (who d : Int) (hl1 : D.dues.length ≤ 40) (hl2 : D.paid.length ≤ 40) (hng : ¬ GoodD D) (h1 : isW D who = false) : FnV Tryd.prog 14 [valD D uo po uc pc, i64 who, i64 d] [rowD uo 5 encD D.dues, rowD po 4 encP D.paid, rowD (some ⟨0, 0, none⟩) 1 encE ([0, 1] : List Nat)] (.tuple #[vS (leftB D who d).1, i64 (leftB D who d).2]) := by
  refine FnV.introD Tryd.call14 Tryd.func14 rfl Tryd.ntmps14 rfl ?_
  intro W M Rf
  refine r_seq ?_
  refine r_region ?_
  refine o_boxA rfl rfl rfl rfl rfl (fun b3 => ?_)
  refine o_alloc rfl inf29 rfl rfl rfl rfl rfl (fun b6 => ?_)
  refine o_alloc rfl inf30 rfl rfl rfl rfl rfl (fun b7 => ?_)
  refine o_nil ?_
  repeat (first | with_reducible refine r_then ?_ | with_reducible refine r_in_normal ?_ | with_reducible refine r_sc_normal ?_)
  refine r_seq ?_
  refine r_region ?_
  refine o_defer rfl rfl rfl rfl ?_
  refine o_nil ?_
  repeat (first | with_reducible refine r_then ?_ | with_reducible refine r_in_normal ?_ | with_reducible refine r_sc_normal ?_)
  refine r_seq ?_
  refine r_parX 11 mixed (by kernel_rfl) (by rfl) ?_
  first | refine p_q _ rfl rfl rfl (fun _ _ => v_ldW rfl Tryd.underlying25 rfl inf25 rfl rfl) ?_ | refine p_q _ rfl rfl rfl (fun _ _ => v_lfW rfl Tryd.underlying25 rfl inf25 rfl rfl) ?_ | refine p_q _ rfl rfl rfl (fun _ _ => v_lfN rfl Tryd.underlying25 rfl inf25 rfl rfl rfl) ?_ | refine p_q _ rfl rfl rfl (fun _ _ => v_ldN rfl Tryd.underlying25 rfl inf25 rfl rfl rfl) ?_ | refine p_q _ rfl rfl rfl (fun _ _ => v_loadEN rfl Tryd.underlying25 rfl inf25 rfl (by omega) rfl rfl rfl) ?_
  first | refine p_q _ rfl rfl rfl (fun _ _ => v_ldW rfl Tryd.underlying25 rfl inf25 rfl rfl) ?_ | refine p_q _ rfl rfl rfl (fun _ _ => v_lfW rfl Tryd.underlying25 rfl inf25 rfl rfl) ?_ | refine p_q _ rfl rfl rfl (fun _ _ => v_lfN rfl Tryd.underlying25 rfl inf25 rfl rfl rfl) ?_ | refine p_q _ rfl rfl rfl (fun _ _ => v_ldN rfl Tryd.underlying25 rfl inf25 rfl rfl rfl) ?_ | refine p_q _ rfl rfl rfl (fun _ _ => v_loadEN rfl Tryd.underlying25 rfl inf25 rfl (by omega) rfl rfl rfl) ?_
  refine p_q _ rfl rfl rfl (fun _ _ => v_move rfl rfl) ?_
  refine p_q _ rfl rfl rfl (fun _ _ => v_cast (v := .bool false) (OpQ.fn (isWho_v D uo po uc pc who) rfl rfl SubRC.sub) (congrArg Value.bool h1)) ?_
  refine p_q _ rfl rfl rfl (fun _ _ => v_move rfl rfl) ?_
  first | refine p_gn rfl rfl rfl rfl ?_ | refine p_g _ rfl rfl rfl rfl (fun _ _ => v_move rfl rfl) ?_
  first | refine p_gn rfl rfl rfl rfl ?_ | refine p_g _ rfl rfl rfl rfl (fun _ _ => OpQ.fn (isDay_v d) rfl rfl SubRC.sub) ?_
  first | refine p_q _ rfl rfl rfl (fun _ _ => v_pick_t rfl rfl rfl) ?_ | refine p_q _ rfl rfl rfl (fun _ _ => v_pick_f rfl rfl rfl) ?_
  refine p_deadX (look_x1 D uo po uc pc _ hl1 hl2 hng) rfl rfl rfl rfl rfl SubRC.sub ?_
  refine p_q _ rfl rfl rfl (fun _ _ => v_move rfl rfl) ?_
  refine p_q _ rfl rfl rfl (fun _ _ => v_move rfl rfl) ?_
  refine p_nilX (panOf (.iface 103 (i64 1))) (by simp only [List.nil_append, List.cons_append]; rfl) rfl (by kernel_rfl) rfl ?_ ?_
  ·
    repeat (first | with_reducible refine r_then_panic ?_ | with_reducible refine r_in_panic ?_ | with_reducible refine r_sc_panic ?_)
    exact d_panv answer_ans (Rd.two rfl (RdI.cellW Tryd.underlying29 rfl inf29 rfl rfl) (RdI.cell1 Tryd.underlying30 rfl rfl rfl)) (by rw [leftB, ansD_n (chkD_1 hng) (by decide)]; try rfl) SelMC.sel SubRC.sub
  ·
    refine f_q rfl ?_
    refine f_q rfl ?_
    refine f_q rfl ?_
    refine f_q rfl ?_
    refine f_q rfl ?_
    refine f_q rfl ?_
    refine f_q rfl ?_
    refine f_q rfl ?_
    exact f_dead
set_option maxHeartbeats 4000000 in
theorem left14_x1b (who d : Int) (hl1 : D.dues.length ≤ 40) (hl2 : D.paid.length ≤ 40) (hng : ¬ GoodD D) (h1 : isW D who = true) : FnV Tryd.prog 14 [valD D uo po uc pc, i64 who, i64 d] [rowD uo 5 encD D.dues, rowD po 4 encP D.paid, rowD (some ⟨0, 0, none⟩) 1 encE ([0, 1] : List Nat)] (.tuple #[vS (leftB D who d).1, i64 (leftB D who d).2]) := by
  refine FnV.introD Tryd.call14 Tryd.func14 rfl Tryd.ntmps14 rfl ?_
  intro W M Rf
  refine r_seq ?_
  refine r_region ?_
  refine o_boxA rfl rfl rfl rfl rfl (fun b3 => ?_)
  refine o_alloc rfl inf29 rfl rfl rfl rfl rfl (fun b6 => ?_)
  refine o_alloc rfl inf30 rfl rfl rfl rfl rfl (fun b7 => ?_)
  refine o_nil ?_
  repeat (first | with_reducible refine r_then ?_ | with_reducible refine r_in_normal ?_ | with_reducible refine r_sc_normal ?_)
  refine r_seq ?_
  refine r_region ?_
  refine o_defer rfl rfl rfl rfl ?_
  refine o_nil ?_
  repeat (first | with_reducible refine r_then ?_ | with_reducible refine r_in_normal ?_ | with_reducible refine r_sc_normal ?_)
  refine r_seq ?_
  refine r_parX 11 mixed (by kernel_rfl) (by rfl) ?_
  first | refine p_q _ rfl rfl rfl (fun _ _ => v_ldW rfl Tryd.underlying25 rfl inf25 rfl rfl) ?_ | refine p_q _ rfl rfl rfl (fun _ _ => v_lfW rfl Tryd.underlying25 rfl inf25 rfl rfl) ?_ | refine p_q _ rfl rfl rfl (fun _ _ => v_lfN rfl Tryd.underlying25 rfl inf25 rfl rfl rfl) ?_ | refine p_q _ rfl rfl rfl (fun _ _ => v_ldN rfl Tryd.underlying25 rfl inf25 rfl rfl rfl) ?_ | refine p_q _ rfl rfl rfl (fun _ _ => v_loadEN rfl Tryd.underlying25 rfl inf25 rfl (by omega) rfl rfl rfl) ?_
  first | refine p_q _ rfl rfl rfl (fun _ _ => v_ldW rfl Tryd.underlying25 rfl inf25 rfl rfl) ?_ | refine p_q _ rfl rfl rfl (fun _ _ => v_lfW rfl Tryd.underlying25 rfl inf25 rfl rfl) ?_ | refine p_q _ rfl rfl rfl (fun _ _ => v_lfN rfl Tryd.underlying25 rfl inf25 rfl rfl rfl) ?_ | refine p_q _ rfl rfl rfl (fun _ _ => v_ldN rfl Tryd.underlying25 rfl inf25 rfl rfl rfl) ?_ | refine p_q _ rfl rfl rfl (fun _ _ => v_loadEN rfl Tryd.underlying25 rfl inf25 rfl (by omega) rfl rfl rfl) ?_
  refine p_q _ rfl rfl rfl (fun _ _ => v_move rfl rfl) ?_
  refine p_q _ rfl rfl rfl (fun _ _ => v_cast (v := .bool true) (OpQ.fn (isWho_v D uo po uc pc who) rfl rfl SubRC.sub) (congrArg Value.bool h1)) ?_
  refine p_q _ rfl rfl rfl (fun _ _ => v_move rfl rfl) ?_
  first | refine p_gn rfl rfl rfl rfl ?_ | refine p_g _ rfl rfl rfl rfl (fun _ _ => v_move rfl rfl) ?_
  first | refine p_gn rfl rfl rfl rfl ?_ | refine p_g _ rfl rfl rfl rfl (fun _ _ => OpQ.fn (isDay_v d) rfl rfl SubRC.sub) ?_
  first | refine p_q _ rfl rfl rfl (fun _ _ => v_pick_t rfl rfl rfl) ?_ | refine p_q _ rfl rfl rfl (fun _ _ => v_pick_f rfl rfl rfl) ?_
  refine p_deadX (look_x1 D uo po uc pc _ hl1 hl2 hng) rfl rfl rfl rfl rfl SubRC.sub ?_
  refine p_q _ rfl rfl rfl (fun _ _ => v_move rfl rfl) ?_
  refine p_q _ rfl rfl rfl (fun _ _ => v_move rfl rfl) ?_
  refine p_nilX (panOf (.iface 103 (i64 1))) (by simp only [List.nil_append, List.cons_append]; rfl) rfl (by kernel_rfl) rfl ?_ ?_
  ·
    repeat (first | with_reducible refine r_then_panic ?_ | with_reducible refine r_in_panic ?_ | with_reducible refine r_sc_panic ?_)
    exact d_panv answer_ans (Rd.two rfl (RdI.cellW Tryd.underlying29 rfl inf29 rfl rfl) (RdI.cell1 Tryd.underlying30 rfl rfl rfl)) (by rw [leftB, ansD_n (chkD_1 hng) (by decide)]; try rfl) SelMC.sel SubRC.sub
  ·
    refine f_q rfl ?_
    refine f_q rfl ?_
    refine f_q rfl ?_
    refine f_q rfl ?_
    refine f_q rfl ?_
    refine f_q rfl ?_
    refine f_q rfl ?_
    refine f_q rfl ?_
    exact f_dead
set_option maxHeartbeats 4000000 in
theorem left14_x2a (who d : Int) (hl1 : D.dues.length ≤ 40) (hl2 : D.paid.length ≤ 40) (hg : GoodD D) (h1 : isW D who = false) : FnV Tryd.prog 14 [valD D uo po uc pc, i64 who, i64 d] [rowD uo 5 encD D.dues, rowD po 4 encP D.paid, rowD (some ⟨0, 0, none⟩) 1 encE ([0, 1] : List Nat)] (.tuple #[vS (leftB D who d).1, i64 (leftB D who d).2]) := by
  refine FnV.introD Tryd.call14 Tryd.func14 rfl Tryd.ntmps14 rfl ?_
  intro W M Rf
  refine r_seq ?_
  refine r_region ?_
  refine o_boxA rfl rfl rfl rfl rfl (fun b3 => ?_)
  refine o_alloc rfl inf29 rfl rfl rfl rfl rfl (fun b6 => ?_)
  refine o_alloc rfl inf30 rfl rfl rfl rfl rfl (fun b7 => ?_)
  refine o_nil ?_
  repeat (first | with_reducible refine r_then ?_ | with_reducible refine r_in_normal ?_ | with_reducible refine r_sc_normal ?_)
  refine r_seq ?_
  refine r_region ?_
  refine o_defer rfl rfl rfl rfl ?_
  refine o_nil ?_
  repeat (first | with_reducible refine r_then ?_ | with_reducible refine r_in_normal ?_ | with_reducible refine r_sc_normal ?_)
  refine r_seq ?_
  refine r_parX 11 mixed (by kernel_rfl) (by rfl) ?_
  first | refine p_q _ rfl rfl rfl (fun _ _ => v_ldW rfl Tryd.underlying25 rfl inf25 rfl rfl) ?_ | refine p_q _ rfl rfl rfl (fun _ _ => v_lfW rfl Tryd.underlying25 rfl inf25 rfl rfl) ?_ | refine p_q _ rfl rfl rfl (fun _ _ => v_lfN rfl Tryd.underlying25 rfl inf25 rfl rfl rfl) ?_ | refine p_q _ rfl rfl rfl (fun _ _ => v_ldN rfl Tryd.underlying25 rfl inf25 rfl rfl rfl) ?_ | refine p_q _ rfl rfl rfl (fun _ _ => v_loadEN rfl Tryd.underlying25 rfl inf25 rfl (by omega) rfl rfl rfl) ?_
  first | refine p_q _ rfl rfl rfl (fun _ _ => v_ldW rfl Tryd.underlying25 rfl inf25 rfl rfl) ?_ | refine p_q _ rfl rfl rfl (fun _ _ => v_lfW rfl Tryd.underlying25 rfl inf25 rfl rfl) ?_ | refine p_q _ rfl rfl rfl (fun _ _ => v_lfN rfl Tryd.underlying25 rfl inf25 rfl rfl rfl) ?_ | refine p_q _ rfl rfl rfl (fun _ _ => v_ldN rfl Tryd.underlying25 rfl inf25 rfl rfl rfl) ?_ | refine p_q _ rfl rfl rfl (fun _ _ => v_loadEN rfl Tryd.underlying25 rfl inf25 rfl (by omega) rfl rfl rfl) ?_
  refine p_q _ rfl rfl rfl (fun _ _ => v_move rfl rfl) ?_
  refine p_q _ rfl rfl rfl (fun _ _ => v_cast (v := .bool false) (OpQ.fn (isWho_v D uo po uc pc who) rfl rfl SubRC.sub) (congrArg Value.bool h1)) ?_
  refine p_q _ rfl rfl rfl (fun _ _ => v_move rfl rfl) ?_
  first | refine p_gn rfl rfl rfl rfl ?_ | refine p_g _ rfl rfl rfl rfl (fun _ _ => v_move rfl rfl) ?_
  first | refine p_gn rfl rfl rfl rfl ?_ | refine p_g _ rfl rfl rfl rfl (fun _ _ => OpQ.fn (isDay_v d) rfl rfl SubRC.sub) ?_
  first | refine p_q _ rfl rfl rfl (fun _ _ => v_pick_t rfl rfl rfl) ?_ | refine p_q _ rfl rfl rfl (fun _ _ => v_pick_f rfl rfl rfl) ?_
  refine p_deadX (look_x2 D uo po uc pc hl1 hl2 hg) rfl rfl rfl rfl rfl SubRC.sub ?_
  refine p_q _ rfl rfl rfl (fun _ _ => v_move rfl rfl) ?_
  refine p_q _ rfl rfl rfl (fun _ _ => v_move rfl rfl) ?_
  refine p_nilX (panOf (.iface 103 (i64 2))) (by simp only [List.nil_append, List.cons_append]; rfl) rfl (by kernel_rfl) rfl ?_ ?_
  ·
    repeat (first | with_reducible refine r_then_panic ?_ | with_reducible refine r_in_panic ?_ | with_reducible refine r_sc_panic ?_)
    exact d_panv answer_ans (Rd.two rfl (RdI.cellW Tryd.underlying29 rfl inf29 rfl rfl) (RdI.cell1 Tryd.underlying30 rfl rfl rfl)) (by rw [leftB, ansD_n (chkD_2 hg (okF1 h1)) (by decide)]; try rfl) SelMC.sel SubRC.sub
  ·
    refine f_q rfl ?_
    refine f_q rfl ?_
    refine f_q rfl ?_
    refine f_q rfl ?_
    refine f_q rfl ?_
    refine f_q rfl ?_
    refine f_q rfl ?_
    refine f_q rfl ?_
    exact f_dead
set_option maxHeartbeats 4000000 in
theorem left14_x2b (who d : Int) (hl1 : D.dues.length ≤ 40) (hl2 : D.paid.length ≤ 40) (hg : GoodD D) (h1 : isW D who = true) (h2 : isDy d = false) : FnV Tryd.prog 14 [valD D uo po uc pc, i64 who, i64 d] [rowD uo 5 encD D.dues, rowD po 4 encP D.paid, rowD (some ⟨0, 0, none⟩) 1 encE ([0, 1] : List Nat)] (.tuple #[vS (leftB D who d).1, i64 (leftB D who d).2]) := by
  refine FnV.introD Tryd.call14 Tryd.func14 rfl Tryd.ntmps14 rfl ?_
  intro W M Rf
  refine r_seq ?_
  refine r_region ?_
  refine o_boxA rfl rfl rfl rfl rfl (fun b3 => ?_)
  refine o_alloc rfl inf29 rfl rfl rfl rfl rfl (fun b6 => ?_)
  refine o_alloc rfl inf30 rfl rfl rfl rfl rfl (fun b7 => ?_)
  refine o_nil ?_
  repeat (first | with_reducible refine r_then ?_ | with_reducible refine r_in_normal ?_ | with_reducible refine r_sc_normal ?_)
  refine r_seq ?_
  refine r_region ?_
  refine o_defer rfl rfl rfl rfl ?_
  refine o_nil ?_
  repeat (first | with_reducible refine r_then ?_ | with_reducible refine r_in_normal ?_ | with_reducible refine r_sc_normal ?_)
  refine r_seq ?_
  refine r_parX 11 mixed (by kernel_rfl) (by rfl) ?_
  first | refine p_q _ rfl rfl rfl (fun _ _ => v_ldW rfl Tryd.underlying25 rfl inf25 rfl rfl) ?_ | refine p_q _ rfl rfl rfl (fun _ _ => v_lfW rfl Tryd.underlying25 rfl inf25 rfl rfl) ?_ | refine p_q _ rfl rfl rfl (fun _ _ => v_lfN rfl Tryd.underlying25 rfl inf25 rfl rfl rfl) ?_ | refine p_q _ rfl rfl rfl (fun _ _ => v_ldN rfl Tryd.underlying25 rfl inf25 rfl rfl rfl) ?_ | refine p_q _ rfl rfl rfl (fun _ _ => v_loadEN rfl Tryd.underlying25 rfl inf25 rfl (by omega) rfl rfl rfl) ?_
  first | refine p_q _ rfl rfl rfl (fun _ _ => v_ldW rfl Tryd.underlying25 rfl inf25 rfl rfl) ?_ | refine p_q _ rfl rfl rfl (fun _ _ => v_lfW rfl Tryd.underlying25 rfl inf25 rfl rfl) ?_ | refine p_q _ rfl rfl rfl (fun _ _ => v_lfN rfl Tryd.underlying25 rfl inf25 rfl rfl rfl) ?_ | refine p_q _ rfl rfl rfl (fun _ _ => v_ldN rfl Tryd.underlying25 rfl inf25 rfl rfl rfl) ?_ | refine p_q _ rfl rfl rfl (fun _ _ => v_loadEN rfl Tryd.underlying25 rfl inf25 rfl (by omega) rfl rfl rfl) ?_
  refine p_q _ rfl rfl rfl (fun _ _ => v_move rfl rfl) ?_
  refine p_q _ rfl rfl rfl (fun _ _ => v_cast (v := .bool true) (OpQ.fn (isWho_v D uo po uc pc who) rfl rfl SubRC.sub) (congrArg Value.bool h1)) ?_
  refine p_q _ rfl rfl rfl (fun _ _ => v_move rfl rfl) ?_
  first | refine p_gn rfl rfl rfl rfl ?_ | refine p_g _ rfl rfl rfl rfl (fun _ _ => v_move rfl rfl) ?_
  first | refine p_gn rfl rfl rfl rfl ?_ | refine p_g _ rfl rfl rfl rfl (fun _ _ => v_cast (v := .bool false) (OpQ.fn (isDay_v d) rfl rfl SubRC.sub) (congrArg Value.bool h2)) ?_
  first | refine p_q _ rfl rfl rfl (fun _ _ => v_pick_t rfl rfl rfl) ?_ | refine p_q _ rfl rfl rfl (fun _ _ => v_pick_f rfl rfl rfl) ?_
  refine p_deadX (look_x2 D uo po uc pc hl1 hl2 hg) rfl rfl rfl rfl rfl SubRC.sub ?_
  refine p_q _ rfl rfl rfl (fun _ _ => v_move rfl rfl) ?_
  refine p_q _ rfl rfl rfl (fun _ _ => v_move rfl rfl) ?_
  refine p_nilX (panOf (.iface 103 (i64 2))) (by simp only [List.nil_append, List.cons_append]; rfl) rfl (by kernel_rfl) rfl ?_ ?_
  ·
    repeat (first | with_reducible refine r_then_panic ?_ | with_reducible refine r_in_panic ?_ | with_reducible refine r_sc_panic ?_)
    exact d_panv answer_ans (Rd.two rfl (RdI.cellW Tryd.underlying29 rfl inf29 rfl rfl) (RdI.cell1 Tryd.underlying30 rfl rfl rfl)) (by rw [leftB, ansD_n (chkD_2 hg (okF2 h2)) (by decide)]; try rfl) SelMC.sel SubRC.sub
  ·
    refine f_q rfl ?_
    refine f_q rfl ?_
    refine f_q rfl ?_
    refine f_q rfl ?_
    refine f_q rfl ?_
    refine f_q rfl ?_
    refine f_q rfl ?_
    refine f_q rfl ?_
    exact f_dead
set_option maxHeartbeats 4000000 in
theorem left14_ok (who d : Int) (hl1 : D.dues.length ≤ 40) (hl2 : D.paid.length ≤ 40) (hg : GoodD D) (h1 : isW D who = true) (h2 : isDy d = true) : FnV Tryd.prog 14 [valD D uo po uc pc, i64 who, i64 d] [rowD uo 5 encD D.dues, rowD po 4 encP D.paid, rowD (some ⟨0, 0, none⟩) 1 encE ([0, 1] : List Nat)] (.tuple #[vS (leftB D who d).1, i64 (leftB D who d).2]) := by
  obtain ⟨dn, rfl⟩ : ∃ n : Nat, d = n := ⟨d.toNat, by have := of_decide_eq_true h2; omega⟩
  have hd := of_decide_eq_true h2
  have hq1 := hg.np
  have hwr : IntKind.i64.wrap (D.people - 1) = D.people - 1 := IntWalk.i64_in _ (by omega)
  have hwh := of_decide_eq_true h1
  have hdn : dn ≤ 30 := by omega
  have hwb : -1000 ≤ who ∧ who ≤ 1000 := by omega
  refine FnV.introD Tryd.call14 Tryd.func14 rfl Tryd.ntmps14 rfl ?_
  intro W M Rf
  refine r_seq ?_
  refine r_region ?_
  refine o_boxA rfl rfl rfl rfl rfl (fun b3 => ?_)
  refine o_alloc rfl inf29 rfl rfl rfl rfl rfl (fun b6 => ?_)
  refine o_alloc rfl inf30 rfl rfl rfl rfl rfl (fun b7 => ?_)
  refine o_nil ?_
  repeat (first | with_reducible refine r_then ?_ | with_reducible refine r_in_normal ?_ | with_reducible refine r_sc_normal ?_)
  refine r_seq ?_
  refine r_region ?_
  refine o_defer rfl rfl rfl rfl ?_
  refine o_nil ?_
  repeat (first | with_reducible refine r_then ?_ | with_reducible refine r_in_normal ?_ | with_reducible refine r_sc_normal ?_)
  refine r_seq ?_
  refine r_par' 12 mixed (by kernel_rfl) (by rfl) ?_
  first | refine p_q _ rfl rfl rfl (fun _ _ => v_ldW rfl Tryd.underlying25 rfl inf25 rfl rfl) ?_ | refine p_q _ rfl rfl rfl (fun _ _ => v_lfW rfl Tryd.underlying25 rfl inf25 rfl rfl) ?_ | refine p_q _ rfl rfl rfl (fun _ _ => v_lfN rfl Tryd.underlying25 rfl inf25 rfl rfl rfl) ?_ | refine p_q _ rfl rfl rfl (fun _ _ => v_ldN rfl Tryd.underlying25 rfl inf25 rfl rfl rfl) ?_ | refine p_q _ rfl rfl rfl (fun _ _ => v_loadEN rfl Tryd.underlying25 rfl inf25 rfl (by omega) rfl rfl rfl) ?_
  first | refine p_q _ rfl rfl rfl (fun _ _ => v_ldW rfl Tryd.underlying25 rfl inf25 rfl rfl) ?_ | refine p_q _ rfl rfl rfl (fun _ _ => v_lfW rfl Tryd.underlying25 rfl inf25 rfl rfl) ?_ | refine p_q _ rfl rfl rfl (fun _ _ => v_lfN rfl Tryd.underlying25 rfl inf25 rfl rfl rfl) ?_ | refine p_q _ rfl rfl rfl (fun _ _ => v_ldN rfl Tryd.underlying25 rfl inf25 rfl rfl rfl) ?_ | refine p_q _ rfl rfl rfl (fun _ _ => v_loadEN rfl Tryd.underlying25 rfl inf25 rfl (by omega) rfl rfl rfl) ?_
  refine p_q _ rfl rfl rfl (fun _ _ => v_move rfl rfl) ?_
  refine p_q _ rfl rfl rfl (fun _ _ => v_cast (v := .bool true) (OpQ.fn (isWho_v D uo po uc pc who) rfl rfl SubRC.sub) (congrArg Value.bool h1)) ?_
  refine p_q _ rfl rfl rfl (fun _ _ => v_move rfl rfl) ?_
  first | refine p_gn rfl rfl rfl rfl ?_ | refine p_g _ rfl rfl rfl rfl (fun _ _ => v_move rfl rfl) ?_
  first | refine p_gn rfl rfl rfl rfl ?_ | refine p_g _ rfl rfl rfl rfl (fun _ _ => v_cast (v := .bool true) (OpQ.fn (isDay_v _) rfl rfl SubRC.sub) (congrArg Value.bool h2)) ?_
  first | refine p_q _ rfl rfl rfl (fun _ _ => v_pick_t rfl rfl rfl) ?_ | refine p_q _ rfl rfl rfl (fun _ _ => v_pick_f rfl rfl rfl) ?_
  refine p_openL 11 (look_ok D uo po uc pc hl1 hl2 hg) rfl rfl rfl rfl rfl SubRC.sub ?_
  refine p_q _ rfl rfl rfl (fun _ _ => v_move rfl rfl) ?_
  refine p_q _ rfl rfl rfl (fun _ _ => v_move rfl rfl) ?_
  refine p_acc (by simp only [List.nil_append, List.cons_append]; rfl) ?_
  refine p_takeN 8 (led_left D uo po uc pc who dn hg hwb hdn) rfl rfl rfl (fun b => rfl) rfl (by kernel_rfl) rfl rfl rfl SubRC.sub ?_
  refine p_nil2 (by simp only [List.nil_append, List.cons_append]; rfl) rfl ?_ (by kernel_rfl)
  refine f_q rfl ?_
  refine f_q rfl ?_
  refine f_q rfl ?_
  refine f_q rfl ?_
  refine f_q rfl ?_
  refine f_q rfl ?_
  refine f_q rfl ?_
  refine f_q rfl ?_
  refine f_openL rfl (fun b16 => ?_)
  refine f_q rfl ?_
  refine f_q rfl ?_
  refine f_take rfl ?_
  refine f_nil ?_
  refine o_st rfl inf29 rfl rfl rfl rfl rfl rfl rfl rfl ?_
  refine o_st rfl inf30 rfl rfl rfl rfl rfl rfl rfl rfl ?_
  refine o_nil ?_
  repeat (first | with_reducible refine r_then ?_ | with_reducible refine r_in_normal ?_ | with_reducible refine r_sc_normal ?_)
  refine r_ret ?_
  repeat (first | with_reducible refine r_then_ret ?_ | with_reducible refine r_in_ret ?_ | with_reducible refine r_sc_ret ?_)
  exact d_retv answer_ans (Rd.two rfl (RdI.cellW Tryd.underlying29 rfl inf29 rfl rfl) (RdI.cell1 Tryd.underlying30 rfl rfl rfl)) (by rw [leftB, ansD_0 (chkD_0 hg (okT h1 h2)), Int.toNat_natCast]; try rfl) SelMC.sel SubRC.sub
theorem left14_v (who d : Int) (hl1 : D.dues.length ≤ 40) (hl2 : D.paid.length ≤ 40) : FnV Tryd.prog 14 [valD D uo po uc pc, i64 who, i64 d] [rowD uo 5 encD D.dues, rowD po 4 encP D.paid, rowD (some ⟨0, 0, none⟩) 1 encE ([0, 1] : List Nat)] (.tuple #[vS (leftB D who d).1, i64 (leftB D who d).2]) := by
  by_cases hg : GoodD D
  · cases h1 : isW D who
    · exact left14_x2a D uo po uc pc who d hl1 hl2 hg h1
    · cases h2 : isDy d
      · exact left14_x2b D uo po uc pc who d hl1 hl2 hg h1 h2
      · exact left14_ok D uo po uc pc who d hl1 hl2 hg h1 h2
  · cases h1 : isW D who
    · exact left14_x1a D uo po uc pc who d hl1 hl2 hg h1
    · exact left14_x1b D uo po uc pc who d hl1 hl2 hg h1
set_option maxHeartbeats 4000000 in
theorem need22_x1a (who d : Int) (hl1 : D.dues.length ≤ 40) (hl2 : D.paid.length ≤ 40) (hng : ¬ GoodD D) (h1 : isW D who = false) : FnV Tryd.prog 22 [valD D uo po uc pc, i64 who, i64 d] [rowD uo 5 encD D.dues, rowD po 4 encP D.paid, rowD (some ⟨0, 0, none⟩) 1 encE ([0, 1] : List Nat)] (.tuple #[i64 (needB D who d).1, i64 (needB D who d).2]) := by
  refine FnV.introD Tryd.call22 Tryd.func22 rfl Tryd.ntmps22 rfl ?_
  intro W M Rf
  refine r_seq ?_
  refine r_region ?_
  refine o_boxA rfl rfl rfl rfl rfl (fun b3 => ?_)
  refine o_q _ rfl rfl rfl (v_assign rfl rfl) ?_
  refine o_alloc rfl inf30 rfl rfl rfl rfl rfl (fun b7 => ?_)
  refine o_nil ?_
  repeat (first | with_reducible refine r_then ?_ | with_reducible refine r_in_normal ?_ | with_reducible refine r_sc_normal ?_)
  refine r_seq ?_
  refine r_region ?_
  refine o_defer rfl rfl rfl rfl ?_
  refine o_nil ?_
  repeat (first | with_reducible refine r_then ?_ | with_reducible refine r_in_normal ?_ | with_reducible refine r_sc_normal ?_)
  refine r_seq ?_
  refine r_parX 11 mixed (by kernel_rfl) (by rfl) ?_
  first | refine p_q _ rfl rfl rfl (fun _ _ => v_ldW rfl Tryd.underlying25 rfl inf25 rfl rfl) ?_ | refine p_q _ rfl rfl rfl (fun _ _ => v_lfW rfl Tryd.underlying25 rfl inf25 rfl rfl) ?_ | refine p_q _ rfl rfl rfl (fun _ _ => v_lfN rfl Tryd.underlying25 rfl inf25 rfl rfl rfl) ?_ | refine p_q _ rfl rfl rfl (fun _ _ => v_ldN rfl Tryd.underlying25 rfl inf25 rfl rfl rfl) ?_ | refine p_q _ rfl rfl rfl (fun _ _ => v_loadEN rfl Tryd.underlying25 rfl inf25 rfl (by omega) rfl rfl rfl) ?_
  first | refine p_q _ rfl rfl rfl (fun _ _ => v_ldW rfl Tryd.underlying25 rfl inf25 rfl rfl) ?_ | refine p_q _ rfl rfl rfl (fun _ _ => v_lfW rfl Tryd.underlying25 rfl inf25 rfl rfl) ?_ | refine p_q _ rfl rfl rfl (fun _ _ => v_lfN rfl Tryd.underlying25 rfl inf25 rfl rfl rfl) ?_ | refine p_q _ rfl rfl rfl (fun _ _ => v_ldN rfl Tryd.underlying25 rfl inf25 rfl rfl rfl) ?_ | refine p_q _ rfl rfl rfl (fun _ _ => v_loadEN rfl Tryd.underlying25 rfl inf25 rfl (by omega) rfl rfl rfl) ?_
  refine p_q _ rfl rfl rfl (fun _ _ => v_move rfl rfl) ?_
  refine p_q _ rfl rfl rfl (fun _ _ => v_cast (v := .bool false) (OpQ.fn (isWho_v D uo po uc pc who) rfl rfl SubRC.sub) (congrArg Value.bool h1)) ?_
  refine p_q _ rfl rfl rfl (fun _ _ => v_move rfl rfl) ?_
  first | refine p_gn rfl rfl rfl rfl ?_ | refine p_g _ rfl rfl rfl rfl (fun _ _ => v_move rfl rfl) ?_
  first | refine p_gn rfl rfl rfl rfl ?_ | refine p_g _ rfl rfl rfl rfl (fun _ _ => OpQ.fn (isDay_v d) rfl rfl SubRC.sub) ?_
  first | refine p_q _ rfl rfl rfl (fun _ _ => v_pick_t rfl rfl rfl) ?_ | refine p_q _ rfl rfl rfl (fun _ _ => v_pick_f rfl rfl rfl) ?_
  refine p_deadX (look_x1 D uo po uc pc _ hl1 hl2 hng) rfl rfl rfl rfl rfl SubRC.sub ?_
  refine p_q _ rfl rfl rfl (fun _ _ => v_move rfl rfl) ?_
  refine p_q _ rfl rfl rfl (fun _ _ => v_move rfl rfl) ?_
  refine p_nilX (panOf (.iface 103 (i64 1))) (by simp only [List.nil_append, List.cons_append]; rfl) rfl (by kernel_rfl) rfl ?_ ?_
  ·
    repeat (first | with_reducible refine r_then_panic ?_ | with_reducible refine r_in_panic ?_ | with_reducible refine r_sc_panic ?_)
    exact d_panv answer_ans (Rd.two rfl (RdI.tmp rfl) (RdI.cell1 Tryd.underlying30 rfl rfl rfl)) (by rw [needB, ansD_n (chkD_1 hng) (by decide)]; try rfl) SelMC.sel SubRC.sub
  ·
    refine f_q rfl ?_
    refine f_q rfl ?_
    refine f_q rfl ?_
    refine f_q rfl ?_
    refine f_q rfl ?_
    refine f_q rfl ?_
    refine f_q rfl ?_
    refine f_q rfl ?_
    exact f_dead
set_option maxHeartbeats 4000000 in
theorem need22_x1b (who d : Int) (hl1 : D.dues.length ≤ 40) (hl2 : D.paid.length ≤ 40) (hng : ¬ GoodD D) (h1 : isW D who = true) : FnV Tryd.prog 22 [valD D uo po uc pc, i64 who, i64 d] [rowD uo 5 encD D.dues, rowD po 4 encP D.paid, rowD (some ⟨0, 0, none⟩) 1 encE ([0, 1] : List Nat)] (.tuple #[i64 (needB D who d).1, i64 (needB D who d).2]) := by
  refine FnV.introD Tryd.call22 Tryd.func22 rfl Tryd.ntmps22 rfl ?_
  intro W M Rf
  refine r_seq ?_
  refine r_region ?_
  refine o_boxA rfl rfl rfl rfl rfl (fun b3 => ?_)
  refine o_q _ rfl rfl rfl (v_assign rfl rfl) ?_
  refine o_alloc rfl inf30 rfl rfl rfl rfl rfl (fun b7 => ?_)
  refine o_nil ?_
  repeat (first | with_reducible refine r_then ?_ | with_reducible refine r_in_normal ?_ | with_reducible refine r_sc_normal ?_)
  refine r_seq ?_
  refine r_region ?_
  refine o_defer rfl rfl rfl rfl ?_
  refine o_nil ?_
  repeat (first | with_reducible refine r_then ?_ | with_reducible refine r_in_normal ?_ | with_reducible refine r_sc_normal ?_)
  refine r_seq ?_
  refine r_parX 11 mixed (by kernel_rfl) (by rfl) ?_
  first | refine p_q _ rfl rfl rfl (fun _ _ => v_ldW rfl Tryd.underlying25 rfl inf25 rfl rfl) ?_ | refine p_q _ rfl rfl rfl (fun _ _ => v_lfW rfl Tryd.underlying25 rfl inf25 rfl rfl) ?_ | refine p_q _ rfl rfl rfl (fun _ _ => v_lfN rfl Tryd.underlying25 rfl inf25 rfl rfl rfl) ?_ | refine p_q _ rfl rfl rfl (fun _ _ => v_ldN rfl Tryd.underlying25 rfl inf25 rfl rfl rfl) ?_ | refine p_q _ rfl rfl rfl (fun _ _ => v_loadEN rfl Tryd.underlying25 rfl inf25 rfl (by omega) rfl rfl rfl) ?_
  first | refine p_q _ rfl rfl rfl (fun _ _ => v_ldW rfl Tryd.underlying25 rfl inf25 rfl rfl) ?_ | refine p_q _ rfl rfl rfl (fun _ _ => v_lfW rfl Tryd.underlying25 rfl inf25 rfl rfl) ?_ | refine p_q _ rfl rfl rfl (fun _ _ => v_lfN rfl Tryd.underlying25 rfl inf25 rfl rfl rfl) ?_ | refine p_q _ rfl rfl rfl (fun _ _ => v_ldN rfl Tryd.underlying25 rfl inf25 rfl rfl rfl) ?_ | refine p_q _ rfl rfl rfl (fun _ _ => v_loadEN rfl Tryd.underlying25 rfl inf25 rfl (by omega) rfl rfl rfl) ?_
  refine p_q _ rfl rfl rfl (fun _ _ => v_move rfl rfl) ?_
  refine p_q _ rfl rfl rfl (fun _ _ => v_cast (v := .bool true) (OpQ.fn (isWho_v D uo po uc pc who) rfl rfl SubRC.sub) (congrArg Value.bool h1)) ?_
  refine p_q _ rfl rfl rfl (fun _ _ => v_move rfl rfl) ?_
  first | refine p_gn rfl rfl rfl rfl ?_ | refine p_g _ rfl rfl rfl rfl (fun _ _ => v_move rfl rfl) ?_
  first | refine p_gn rfl rfl rfl rfl ?_ | refine p_g _ rfl rfl rfl rfl (fun _ _ => OpQ.fn (isDay_v d) rfl rfl SubRC.sub) ?_
  first | refine p_q _ rfl rfl rfl (fun _ _ => v_pick_t rfl rfl rfl) ?_ | refine p_q _ rfl rfl rfl (fun _ _ => v_pick_f rfl rfl rfl) ?_
  refine p_deadX (look_x1 D uo po uc pc _ hl1 hl2 hng) rfl rfl rfl rfl rfl SubRC.sub ?_
  refine p_q _ rfl rfl rfl (fun _ _ => v_move rfl rfl) ?_
  refine p_q _ rfl rfl rfl (fun _ _ => v_move rfl rfl) ?_
  refine p_nilX (panOf (.iface 103 (i64 1))) (by simp only [List.nil_append, List.cons_append]; rfl) rfl (by kernel_rfl) rfl ?_ ?_
  ·
    repeat (first | with_reducible refine r_then_panic ?_ | with_reducible refine r_in_panic ?_ | with_reducible refine r_sc_panic ?_)
    exact d_panv answer_ans (Rd.two rfl (RdI.tmp rfl) (RdI.cell1 Tryd.underlying30 rfl rfl rfl)) (by rw [needB, ansD_n (chkD_1 hng) (by decide)]; try rfl) SelMC.sel SubRC.sub
  ·
    refine f_q rfl ?_
    refine f_q rfl ?_
    refine f_q rfl ?_
    refine f_q rfl ?_
    refine f_q rfl ?_
    refine f_q rfl ?_
    refine f_q rfl ?_
    refine f_q rfl ?_
    exact f_dead
set_option maxHeartbeats 4000000 in
theorem need22_x2a (who d : Int) (hl1 : D.dues.length ≤ 40) (hl2 : D.paid.length ≤ 40) (hg : GoodD D) (h1 : isW D who = false) : FnV Tryd.prog 22 [valD D uo po uc pc, i64 who, i64 d] [rowD uo 5 encD D.dues, rowD po 4 encP D.paid, rowD (some ⟨0, 0, none⟩) 1 encE ([0, 1] : List Nat)] (.tuple #[i64 (needB D who d).1, i64 (needB D who d).2]) := by
  refine FnV.introD Tryd.call22 Tryd.func22 rfl Tryd.ntmps22 rfl ?_
  intro W M Rf
  refine r_seq ?_
  refine r_region ?_
  refine o_boxA rfl rfl rfl rfl rfl (fun b3 => ?_)
  refine o_q _ rfl rfl rfl (v_assign rfl rfl) ?_
  refine o_alloc rfl inf30 rfl rfl rfl rfl rfl (fun b7 => ?_)
  refine o_nil ?_
  repeat (first | with_reducible refine r_then ?_ | with_reducible refine r_in_normal ?_ | with_reducible refine r_sc_normal ?_)
  refine r_seq ?_
  refine r_region ?_
  refine o_defer rfl rfl rfl rfl ?_
  refine o_nil ?_
  repeat (first | with_reducible refine r_then ?_ | with_reducible refine r_in_normal ?_ | with_reducible refine r_sc_normal ?_)
  refine r_seq ?_
  refine r_parX 11 mixed (by kernel_rfl) (by rfl) ?_
  first | refine p_q _ rfl rfl rfl (fun _ _ => v_ldW rfl Tryd.underlying25 rfl inf25 rfl rfl) ?_ | refine p_q _ rfl rfl rfl (fun _ _ => v_lfW rfl Tryd.underlying25 rfl inf25 rfl rfl) ?_ | refine p_q _ rfl rfl rfl (fun _ _ => v_lfN rfl Tryd.underlying25 rfl inf25 rfl rfl rfl) ?_ | refine p_q _ rfl rfl rfl (fun _ _ => v_ldN rfl Tryd.underlying25 rfl inf25 rfl rfl rfl) ?_ | refine p_q _ rfl rfl rfl (fun _ _ => v_loadEN rfl Tryd.underlying25 rfl inf25 rfl (by omega) rfl rfl rfl) ?_
  first | refine p_q _ rfl rfl rfl (fun _ _ => v_ldW rfl Tryd.underlying25 rfl inf25 rfl rfl) ?_ | refine p_q _ rfl rfl rfl (fun _ _ => v_lfW rfl Tryd.underlying25 rfl inf25 rfl rfl) ?_ | refine p_q _ rfl rfl rfl (fun _ _ => v_lfN rfl Tryd.underlying25 rfl inf25 rfl rfl rfl) ?_ | refine p_q _ rfl rfl rfl (fun _ _ => v_ldN rfl Tryd.underlying25 rfl inf25 rfl rfl rfl) ?_ | refine p_q _ rfl rfl rfl (fun _ _ => v_loadEN rfl Tryd.underlying25 rfl inf25 rfl (by omega) rfl rfl rfl) ?_
  refine p_q _ rfl rfl rfl (fun _ _ => v_move rfl rfl) ?_
  refine p_q _ rfl rfl rfl (fun _ _ => v_cast (v := .bool false) (OpQ.fn (isWho_v D uo po uc pc who) rfl rfl SubRC.sub) (congrArg Value.bool h1)) ?_
  refine p_q _ rfl rfl rfl (fun _ _ => v_move rfl rfl) ?_
  first | refine p_gn rfl rfl rfl rfl ?_ | refine p_g _ rfl rfl rfl rfl (fun _ _ => v_move rfl rfl) ?_
  first | refine p_gn rfl rfl rfl rfl ?_ | refine p_g _ rfl rfl rfl rfl (fun _ _ => OpQ.fn (isDay_v d) rfl rfl SubRC.sub) ?_
  first | refine p_q _ rfl rfl rfl (fun _ _ => v_pick_t rfl rfl rfl) ?_ | refine p_q _ rfl rfl rfl (fun _ _ => v_pick_f rfl rfl rfl) ?_
  refine p_deadX (look_x2 D uo po uc pc hl1 hl2 hg) rfl rfl rfl rfl rfl SubRC.sub ?_
  refine p_q _ rfl rfl rfl (fun _ _ => v_move rfl rfl) ?_
  refine p_q _ rfl rfl rfl (fun _ _ => v_move rfl rfl) ?_
  refine p_nilX (panOf (.iface 103 (i64 2))) (by simp only [List.nil_append, List.cons_append]; rfl) rfl (by kernel_rfl) rfl ?_ ?_
  ·
    repeat (first | with_reducible refine r_then_panic ?_ | with_reducible refine r_in_panic ?_ | with_reducible refine r_sc_panic ?_)
    exact d_panv answer_ans (Rd.two rfl (RdI.tmp rfl) (RdI.cell1 Tryd.underlying30 rfl rfl rfl)) (by rw [needB, ansD_n (chkD_2 hg (okF1 h1)) (by decide)]; try rfl) SelMC.sel SubRC.sub
  ·
    refine f_q rfl ?_
    refine f_q rfl ?_
    refine f_q rfl ?_
    refine f_q rfl ?_
    refine f_q rfl ?_
    refine f_q rfl ?_
    refine f_q rfl ?_
    refine f_q rfl ?_
    exact f_dead
set_option maxHeartbeats 4000000 in
theorem need22_x2b (who d : Int) (hl1 : D.dues.length ≤ 40) (hl2 : D.paid.length ≤ 40) (hg : GoodD D) (h1 : isW D who = true) (h2 : isDy d = false) : FnV Tryd.prog 22 [valD D uo po uc pc, i64 who, i64 d] [rowD uo 5 encD D.dues, rowD po 4 encP D.paid, rowD (some ⟨0, 0, none⟩) 1 encE ([0, 1] : List Nat)] (.tuple #[i64 (needB D who d).1, i64 (needB D who d).2]) := by
  refine FnV.introD Tryd.call22 Tryd.func22 rfl Tryd.ntmps22 rfl ?_
  intro W M Rf
  refine r_seq ?_
  refine r_region ?_
  refine o_boxA rfl rfl rfl rfl rfl (fun b3 => ?_)
  refine o_q _ rfl rfl rfl (v_assign rfl rfl) ?_
  refine o_alloc rfl inf30 rfl rfl rfl rfl rfl (fun b7 => ?_)
  refine o_nil ?_
  repeat (first | with_reducible refine r_then ?_ | with_reducible refine r_in_normal ?_ | with_reducible refine r_sc_normal ?_)
  refine r_seq ?_
  refine r_region ?_
  refine o_defer rfl rfl rfl rfl ?_
  refine o_nil ?_
  repeat (first | with_reducible refine r_then ?_ | with_reducible refine r_in_normal ?_ | with_reducible refine r_sc_normal ?_)
  refine r_seq ?_
  refine r_parX 11 mixed (by kernel_rfl) (by rfl) ?_
  first | refine p_q _ rfl rfl rfl (fun _ _ => v_ldW rfl Tryd.underlying25 rfl inf25 rfl rfl) ?_ | refine p_q _ rfl rfl rfl (fun _ _ => v_lfW rfl Tryd.underlying25 rfl inf25 rfl rfl) ?_ | refine p_q _ rfl rfl rfl (fun _ _ => v_lfN rfl Tryd.underlying25 rfl inf25 rfl rfl rfl) ?_ | refine p_q _ rfl rfl rfl (fun _ _ => v_ldN rfl Tryd.underlying25 rfl inf25 rfl rfl rfl) ?_ | refine p_q _ rfl rfl rfl (fun _ _ => v_loadEN rfl Tryd.underlying25 rfl inf25 rfl (by omega) rfl rfl rfl) ?_
  first | refine p_q _ rfl rfl rfl (fun _ _ => v_ldW rfl Tryd.underlying25 rfl inf25 rfl rfl) ?_ | refine p_q _ rfl rfl rfl (fun _ _ => v_lfW rfl Tryd.underlying25 rfl inf25 rfl rfl) ?_ | refine p_q _ rfl rfl rfl (fun _ _ => v_lfN rfl Tryd.underlying25 rfl inf25 rfl rfl rfl) ?_ | refine p_q _ rfl rfl rfl (fun _ _ => v_ldN rfl Tryd.underlying25 rfl inf25 rfl rfl rfl) ?_ | refine p_q _ rfl rfl rfl (fun _ _ => v_loadEN rfl Tryd.underlying25 rfl inf25 rfl (by omega) rfl rfl rfl) ?_
  refine p_q _ rfl rfl rfl (fun _ _ => v_move rfl rfl) ?_
  refine p_q _ rfl rfl rfl (fun _ _ => v_cast (v := .bool true) (OpQ.fn (isWho_v D uo po uc pc who) rfl rfl SubRC.sub) (congrArg Value.bool h1)) ?_
  refine p_q _ rfl rfl rfl (fun _ _ => v_move rfl rfl) ?_
  first | refine p_gn rfl rfl rfl rfl ?_ | refine p_g _ rfl rfl rfl rfl (fun _ _ => v_move rfl rfl) ?_
  first | refine p_gn rfl rfl rfl rfl ?_ | refine p_g _ rfl rfl rfl rfl (fun _ _ => v_cast (v := .bool false) (OpQ.fn (isDay_v d) rfl rfl SubRC.sub) (congrArg Value.bool h2)) ?_
  first | refine p_q _ rfl rfl rfl (fun _ _ => v_pick_t rfl rfl rfl) ?_ | refine p_q _ rfl rfl rfl (fun _ _ => v_pick_f rfl rfl rfl) ?_
  refine p_deadX (look_x2 D uo po uc pc hl1 hl2 hg) rfl rfl rfl rfl rfl SubRC.sub ?_
  refine p_q _ rfl rfl rfl (fun _ _ => v_move rfl rfl) ?_
  refine p_q _ rfl rfl rfl (fun _ _ => v_move rfl rfl) ?_
  refine p_nilX (panOf (.iface 103 (i64 2))) (by simp only [List.nil_append, List.cons_append]; rfl) rfl (by kernel_rfl) rfl ?_ ?_
  ·
    repeat (first | with_reducible refine r_then_panic ?_ | with_reducible refine r_in_panic ?_ | with_reducible refine r_sc_panic ?_)
    exact d_panv answer_ans (Rd.two rfl (RdI.tmp rfl) (RdI.cell1 Tryd.underlying30 rfl rfl rfl)) (by rw [needB, ansD_n (chkD_2 hg (okF2 h2)) (by decide)]; try rfl) SelMC.sel SubRC.sub
  ·
    refine f_q rfl ?_
    refine f_q rfl ?_
    refine f_q rfl ?_
    refine f_q rfl ?_
    refine f_q rfl ?_
    refine f_q rfl ?_
    refine f_q rfl ?_
    refine f_q rfl ?_
    exact f_dead
set_option maxHeartbeats 4000000 in
theorem need22_ok (who d : Int) (hl1 : D.dues.length ≤ 40) (hl2 : D.paid.length ≤ 40) (hg : GoodD D) (h1 : isW D who = true) (h2 : isDy d = true) : FnV Tryd.prog 22 [valD D uo po uc pc, i64 who, i64 d] [rowD uo 5 encD D.dues, rowD po 4 encP D.paid, rowD (some ⟨0, 0, none⟩) 1 encE ([0, 1] : List Nat)] (.tuple #[i64 (needB D who d).1, i64 (needB D who d).2]) := by
  obtain ⟨dn, rfl⟩ : ∃ n : Nat, d = n := ⟨d.toNat, by have := of_decide_eq_true h2; omega⟩
  have hd := of_decide_eq_true h2
  have hq1 := hg.np
  have hwr : IntKind.i64.wrap (D.people - 1) = D.people - 1 := IntWalk.i64_in _ (by omega)
  have hwh := of_decide_eq_true h1
  have hdn : dn ≤ 30 := by omega
  have hwb : -1000 ≤ who ∧ who ≤ 1000 := by omega
  refine FnV.introD Tryd.call22 Tryd.func22 rfl Tryd.ntmps22 rfl ?_
  intro W M Rf
  refine r_seq ?_
  refine r_region ?_
  refine o_boxA rfl rfl rfl rfl rfl (fun b3 => ?_)
  refine o_q _ rfl rfl rfl (v_assign rfl rfl) ?_
  refine o_alloc rfl inf30 rfl rfl rfl rfl rfl (fun b7 => ?_)
  refine o_nil ?_
  repeat (first | with_reducible refine r_then ?_ | with_reducible refine r_in_normal ?_ | with_reducible refine r_sc_normal ?_)
  refine r_seq ?_
  refine r_region ?_
  refine o_defer rfl rfl rfl rfl ?_
  refine o_nil ?_
  repeat (first | with_reducible refine r_then ?_ | with_reducible refine r_in_normal ?_ | with_reducible refine r_sc_normal ?_)
  refine r_seq ?_
  refine r_par' 12 mixed (by kernel_rfl) (by rfl) ?_
  first | refine p_q _ rfl rfl rfl (fun _ _ => v_ldW rfl Tryd.underlying25 rfl inf25 rfl rfl) ?_ | refine p_q _ rfl rfl rfl (fun _ _ => v_lfW rfl Tryd.underlying25 rfl inf25 rfl rfl) ?_ | refine p_q _ rfl rfl rfl (fun _ _ => v_lfN rfl Tryd.underlying25 rfl inf25 rfl rfl rfl) ?_ | refine p_q _ rfl rfl rfl (fun _ _ => v_ldN rfl Tryd.underlying25 rfl inf25 rfl rfl rfl) ?_ | refine p_q _ rfl rfl rfl (fun _ _ => v_loadEN rfl Tryd.underlying25 rfl inf25 rfl (by omega) rfl rfl rfl) ?_
  first | refine p_q _ rfl rfl rfl (fun _ _ => v_ldW rfl Tryd.underlying25 rfl inf25 rfl rfl) ?_ | refine p_q _ rfl rfl rfl (fun _ _ => v_lfW rfl Tryd.underlying25 rfl inf25 rfl rfl) ?_ | refine p_q _ rfl rfl rfl (fun _ _ => v_lfN rfl Tryd.underlying25 rfl inf25 rfl rfl rfl) ?_ | refine p_q _ rfl rfl rfl (fun _ _ => v_ldN rfl Tryd.underlying25 rfl inf25 rfl rfl rfl) ?_ | refine p_q _ rfl rfl rfl (fun _ _ => v_loadEN rfl Tryd.underlying25 rfl inf25 rfl (by omega) rfl rfl rfl) ?_
  refine p_q _ rfl rfl rfl (fun _ _ => v_move rfl rfl) ?_
  refine p_q _ rfl rfl rfl (fun _ _ => v_cast (v := .bool true) (OpQ.fn (isWho_v D uo po uc pc who) rfl rfl SubRC.sub) (congrArg Value.bool h1)) ?_
  refine p_q _ rfl rfl rfl (fun _ _ => v_move rfl rfl) ?_
  first | refine p_gn rfl rfl rfl rfl ?_ | refine p_g _ rfl rfl rfl rfl (fun _ _ => v_move rfl rfl) ?_
  first | refine p_gn rfl rfl rfl rfl ?_ | refine p_g _ rfl rfl rfl rfl (fun _ _ => v_cast (v := .bool true) (OpQ.fn (isDay_v _) rfl rfl SubRC.sub) (congrArg Value.bool h2)) ?_
  first | refine p_q _ rfl rfl rfl (fun _ _ => v_pick_t rfl rfl rfl) ?_ | refine p_q _ rfl rfl rfl (fun _ _ => v_pick_f rfl rfl rfl) ?_
  refine p_openL 11 (look_ok D uo po uc pc hl1 hl2 hg) rfl rfl rfl rfl rfl SubRC.sub ?_
  refine p_q _ rfl rfl rfl (fun _ _ => v_move rfl rfl) ?_
  refine p_q _ rfl rfl rfl (fun _ _ => v_move rfl rfl) ?_
  refine p_acc (by simp only [List.nil_append, List.cons_append]; rfl) ?_
  refine p_takeN 8 (led_need D uo po uc pc who dn hg hwb hdn) rfl rfl rfl (fun b => rfl) rfl (by kernel_rfl) rfl rfl rfl SubRC.sub ?_
  refine p_nil2 (by simp only [List.nil_append, List.cons_append]; rfl) rfl ?_ (by kernel_rfl)
  refine f_q rfl ?_
  refine f_q rfl ?_
  refine f_q rfl ?_
  refine f_q rfl ?_
  refine f_q rfl ?_
  refine f_q rfl ?_
  refine f_q rfl ?_
  refine f_q rfl ?_
  refine f_openL rfl (fun b16 => ?_)
  refine f_q rfl ?_
  refine f_q rfl ?_
  refine f_take rfl ?_
  refine f_nil ?_
  refine o_q _ rfl rfl rfl (v_assign rfl rfl) ?_
  refine o_st rfl inf30 rfl rfl rfl rfl rfl rfl rfl rfl ?_
  refine o_nil ?_
  repeat (first | with_reducible refine r_then ?_ | with_reducible refine r_in_normal ?_ | with_reducible refine r_sc_normal ?_)
  refine r_ret ?_
  repeat (first | with_reducible refine r_then_ret ?_ | with_reducible refine r_in_ret ?_ | with_reducible refine r_sc_ret ?_)
  exact d_retv answer_ans (Rd.two rfl (RdI.tmp rfl) (RdI.cell1 Tryd.underlying30 rfl rfl rfl)) (by rw [needB, ansD_0 (chkD_0 hg (okT h1 h2)), Int.toNat_natCast]; try rfl) SelMC.sel SubRC.sub
theorem need22_v (who d : Int) (hl1 : D.dues.length ≤ 40) (hl2 : D.paid.length ≤ 40) : FnV Tryd.prog 22 [valD D uo po uc pc, i64 who, i64 d] [rowD uo 5 encD D.dues, rowD po 4 encP D.paid, rowD (some ⟨0, 0, none⟩) 1 encE ([0, 1] : List Nat)] (.tuple #[i64 (needB D who d).1, i64 (needB D who d).2]) := by
  by_cases hg : GoodD D
  · cases h1 : isW D who
    · exact need22_x2a D uo po uc pc who d hl1 hl2 hg h1
    · cases h2 : isDy d
      · exact need22_x2b D uo po uc pc who d hl1 hl2 hg h1 h2
      · exact need22_ok D uo po uc pc who d hl1 hl2 hg h1 h2
  · cases h1 : isW D who
    · exact need22_x1a D uo po uc pc who d hl1 hl2 hg h1
    · exact need22_x1b D uo po uc pc who d hl1 hl2 hg h1
set_option maxHeartbeats 4000000 in
theorem setl18_x1a (who d : Int) (hl1 : D.dues.length ≤ 40) (hl2 : D.paid.length ≤ 40) (hng : ¬ GoodD D) (h1 : isW D who = false) : FnV Tryd.prog 18 [valD D uo po uc pc, i64 who, i64 d] [rowD uo 5 encD D.dues, rowD po 4 encP D.paid, rowD (some ⟨0, 0, none⟩) 1 encE ([0, 1] : List Nat)] (.tuple #[i64 (setlB D who d).1, i64 (setlB D who d).2]) := by
  refine FnV.introD Tryd.call18 Tryd.func18 rfl Tryd.ntmps18 rfl ?_
  intro W M Rf
  refine r_seq ?_
  refine r_region ?_
  refine o_boxA rfl rfl rfl rfl rfl (fun b3 => ?_)
  refine o_q _ rfl rfl rfl (v_assign rfl rfl) ?_
  refine o_alloc rfl inf30 rfl rfl rfl rfl rfl (fun b7 => ?_)
  refine o_nil ?_
  repeat (first | with_reducible refine r_then ?_ | with_reducible refine r_in_normal ?_ | with_reducible refine r_sc_normal ?_)
  refine r_seq ?_
  refine r_region ?_
  refine o_defer rfl rfl rfl rfl ?_
  refine o_nil ?_
  repeat (first | with_reducible refine r_then ?_ | with_reducible refine r_in_normal ?_ | with_reducible refine r_sc_normal ?_)
  refine r_seq ?_
  refine r_parX 13 mixed (by kernel_rfl) (by rfl) ?_
  first | refine p_q _ rfl rfl rfl (fun _ _ => v_ldW rfl Tryd.underlying25 rfl inf25 rfl rfl) ?_ | refine p_q _ rfl rfl rfl (fun _ _ => v_lfW rfl Tryd.underlying25 rfl inf25 rfl rfl) ?_ | refine p_q _ rfl rfl rfl (fun _ _ => v_lfN rfl Tryd.underlying25 rfl inf25 rfl rfl rfl) ?_ | refine p_q _ rfl rfl rfl (fun _ _ => v_ldN rfl Tryd.underlying25 rfl inf25 rfl rfl rfl) ?_ | refine p_q _ rfl rfl rfl (fun _ _ => v_loadEN rfl Tryd.underlying25 rfl inf25 rfl (by omega) rfl rfl rfl) ?_
  first | refine p_q _ rfl rfl rfl (fun _ _ => v_ldW rfl Tryd.underlying25 rfl inf25 rfl rfl) ?_ | refine p_q _ rfl rfl rfl (fun _ _ => v_lfW rfl Tryd.underlying25 rfl inf25 rfl rfl) ?_ | refine p_q _ rfl rfl rfl (fun _ _ => v_lfN rfl Tryd.underlying25 rfl inf25 rfl rfl rfl) ?_ | refine p_q _ rfl rfl rfl (fun _ _ => v_ldN rfl Tryd.underlying25 rfl inf25 rfl rfl rfl) ?_ | refine p_q _ rfl rfl rfl (fun _ _ => v_loadEN rfl Tryd.underlying25 rfl inf25 rfl (by omega) rfl rfl rfl) ?_
  refine p_q _ rfl rfl rfl (fun _ _ => v_move rfl rfl) ?_
  refine p_q _ rfl rfl rfl (fun _ _ => v_cast (v := .bool false) (OpQ.fn (isWho_v D uo po uc pc who) rfl rfl SubRC.sub) (congrArg Value.bool h1)) ?_
  refine p_q _ rfl rfl rfl (fun _ _ => v_move rfl rfl) ?_
  first | refine p_gn rfl rfl rfl rfl ?_ | refine p_g _ rfl rfl rfl rfl (fun _ _ => v_move rfl rfl) ?_
  first | refine p_gn rfl rfl rfl rfl ?_ | refine p_g _ rfl rfl rfl rfl (fun _ _ => OpQ.fn (isDay_v d) rfl rfl SubRC.sub) ?_
  first | refine p_q _ rfl rfl rfl (fun _ _ => v_pick_t rfl rfl rfl) ?_ | refine p_q _ rfl rfl rfl (fun _ _ => v_pick_f rfl rfl rfl) ?_
  refine p_deadX (look_x1 D uo po uc pc _ hl1 hl2 hng) rfl rfl rfl rfl rfl SubRC.sub ?_
  refine p_q _ rfl rfl rfl (fun _ _ => v_move rfl rfl) ?_
  refine p_q _ rfl rfl rfl (fun _ _ => v_move rfl rfl) ?_
  refine p_acc (by simp only [List.nil_append, List.cons_append]; rfl) ?_
  refine p_dead 8 rfl rfl rfl (fun _ h => h) (by kernel_rfl) rfl rfl rfl ?_
  refine p_alloc rfl inf29 rfl rfl rfl rfl rfl ?_
  refine p_nilX (panOf (.iface 103 (i64 1))) (by simp only [List.nil_append, List.cons_append]; rfl) rfl (by kernel_rfl) rfl ?_ ?_
  ·
    repeat (first | with_reducible refine r_then_panic ?_ | with_reducible refine r_in_panic ?_ | with_reducible refine r_sc_panic ?_)
    exact d_panv answer_ans (Rd.two rfl (RdI.tmp rfl) (RdI.cell1 Tryd.underlying30 rfl rfl rfl)) (by rw [setlB, ansD_n (chkD_1 hng) (by decide)]; try rfl) SelMC.sel SubRC.sub
  ·
    refine f_q rfl ?_
    refine f_q rfl ?_
    refine f_q rfl ?_
    refine f_q rfl ?_
    refine f_q rfl ?_
    refine f_q rfl ?_
    refine f_q rfl ?_
    refine f_q rfl ?_
    exact f_dead
set_option maxHeartbeats 4000000 in
theorem setl18_x1b (who d : Int) (hl1 : D.dues.length ≤ 40) (hl2 : D.paid.length ≤ 40) (hng : ¬ GoodD D) (h1 : isW D who = true) : FnV Tryd.prog 18 [valD D uo po uc pc, i64 who, i64 d] [rowD uo 5 encD D.dues, rowD po 4 encP D.paid, rowD (some ⟨0, 0, none⟩) 1 encE ([0, 1] : List Nat)] (.tuple #[i64 (setlB D who d).1, i64 (setlB D who d).2]) := by
  refine FnV.introD Tryd.call18 Tryd.func18 rfl Tryd.ntmps18 rfl ?_
  intro W M Rf
  refine r_seq ?_
  refine r_region ?_
  refine o_boxA rfl rfl rfl rfl rfl (fun b3 => ?_)
  refine o_q _ rfl rfl rfl (v_assign rfl rfl) ?_
  refine o_alloc rfl inf30 rfl rfl rfl rfl rfl (fun b7 => ?_)
  refine o_nil ?_
  repeat (first | with_reducible refine r_then ?_ | with_reducible refine r_in_normal ?_ | with_reducible refine r_sc_normal ?_)
  refine r_seq ?_
  refine r_region ?_
  refine o_defer rfl rfl rfl rfl ?_
  refine o_nil ?_
  repeat (first | with_reducible refine r_then ?_ | with_reducible refine r_in_normal ?_ | with_reducible refine r_sc_normal ?_)
  refine r_seq ?_
  refine r_parX 13 mixed (by kernel_rfl) (by rfl) ?_
  first | refine p_q _ rfl rfl rfl (fun _ _ => v_ldW rfl Tryd.underlying25 rfl inf25 rfl rfl) ?_ | refine p_q _ rfl rfl rfl (fun _ _ => v_lfW rfl Tryd.underlying25 rfl inf25 rfl rfl) ?_ | refine p_q _ rfl rfl rfl (fun _ _ => v_lfN rfl Tryd.underlying25 rfl inf25 rfl rfl rfl) ?_ | refine p_q _ rfl rfl rfl (fun _ _ => v_ldN rfl Tryd.underlying25 rfl inf25 rfl rfl rfl) ?_ | refine p_q _ rfl rfl rfl (fun _ _ => v_loadEN rfl Tryd.underlying25 rfl inf25 rfl (by omega) rfl rfl rfl) ?_
  first | refine p_q _ rfl rfl rfl (fun _ _ => v_ldW rfl Tryd.underlying25 rfl inf25 rfl rfl) ?_ | refine p_q _ rfl rfl rfl (fun _ _ => v_lfW rfl Tryd.underlying25 rfl inf25 rfl rfl) ?_ | refine p_q _ rfl rfl rfl (fun _ _ => v_lfN rfl Tryd.underlying25 rfl inf25 rfl rfl rfl) ?_ | refine p_q _ rfl rfl rfl (fun _ _ => v_ldN rfl Tryd.underlying25 rfl inf25 rfl rfl rfl) ?_ | refine p_q _ rfl rfl rfl (fun _ _ => v_loadEN rfl Tryd.underlying25 rfl inf25 rfl (by omega) rfl rfl rfl) ?_
  refine p_q _ rfl rfl rfl (fun _ _ => v_move rfl rfl) ?_
  refine p_q _ rfl rfl rfl (fun _ _ => v_cast (v := .bool true) (OpQ.fn (isWho_v D uo po uc pc who) rfl rfl SubRC.sub) (congrArg Value.bool h1)) ?_
  refine p_q _ rfl rfl rfl (fun _ _ => v_move rfl rfl) ?_
  first | refine p_gn rfl rfl rfl rfl ?_ | refine p_g _ rfl rfl rfl rfl (fun _ _ => v_move rfl rfl) ?_
  first | refine p_gn rfl rfl rfl rfl ?_ | refine p_g _ rfl rfl rfl rfl (fun _ _ => OpQ.fn (isDay_v d) rfl rfl SubRC.sub) ?_
  first | refine p_q _ rfl rfl rfl (fun _ _ => v_pick_t rfl rfl rfl) ?_ | refine p_q _ rfl rfl rfl (fun _ _ => v_pick_f rfl rfl rfl) ?_
  refine p_deadX (look_x1 D uo po uc pc _ hl1 hl2 hng) rfl rfl rfl rfl rfl SubRC.sub ?_
  refine p_q _ rfl rfl rfl (fun _ _ => v_move rfl rfl) ?_
  refine p_q _ rfl rfl rfl (fun _ _ => v_move rfl rfl) ?_
  refine p_acc (by simp only [List.nil_append, List.cons_append]; rfl) ?_
  refine p_dead 8 rfl rfl rfl (fun _ h => h) (by kernel_rfl) rfl rfl rfl ?_
  refine p_alloc rfl inf29 rfl rfl rfl rfl rfl ?_
  refine p_nilX (panOf (.iface 103 (i64 1))) (by simp only [List.nil_append, List.cons_append]; rfl) rfl (by kernel_rfl) rfl ?_ ?_
  ·
    repeat (first | with_reducible refine r_then_panic ?_ | with_reducible refine r_in_panic ?_ | with_reducible refine r_sc_panic ?_)
    exact d_panv answer_ans (Rd.two rfl (RdI.tmp rfl) (RdI.cell1 Tryd.underlying30 rfl rfl rfl)) (by rw [setlB, ansD_n (chkD_1 hng) (by decide)]; try rfl) SelMC.sel SubRC.sub
  ·
    refine f_q rfl ?_
    refine f_q rfl ?_
    refine f_q rfl ?_
    refine f_q rfl ?_
    refine f_q rfl ?_
    refine f_q rfl ?_
    refine f_q rfl ?_
    refine f_q rfl ?_
    exact f_dead
set_option maxHeartbeats 4000000 in
theorem setl18_x2a (who d : Int) (hl1 : D.dues.length ≤ 40) (hl2 : D.paid.length ≤ 40) (hg : GoodD D) (h1 : isW D who = false) : FnV Tryd.prog 18 [valD D uo po uc pc, i64 who, i64 d] [rowD uo 5 encD D.dues, rowD po 4 encP D.paid, rowD (some ⟨0, 0, none⟩) 1 encE ([0, 1] : List Nat)] (.tuple #[i64 (setlB D who d).1, i64 (setlB D who d).2]) := by
  refine FnV.introD Tryd.call18 Tryd.func18 rfl Tryd.ntmps18 rfl ?_
  intro W M Rf
  refine r_seq ?_
  refine r_region ?_
  refine o_boxA rfl rfl rfl rfl rfl (fun b3 => ?_)
  refine o_q _ rfl rfl rfl (v_assign rfl rfl) ?_
  refine o_alloc rfl inf30 rfl rfl rfl rfl rfl (fun b7 => ?_)
  refine o_nil ?_
  repeat (first | with_reducible refine r_then ?_ | with_reducible refine r_in_normal ?_ | with_reducible refine r_sc_normal ?_)
  refine r_seq ?_
  refine r_region ?_
  refine o_defer rfl rfl rfl rfl ?_
  refine o_nil ?_
  repeat (first | with_reducible refine r_then ?_ | with_reducible refine r_in_normal ?_ | with_reducible refine r_sc_normal ?_)
  refine r_seq ?_
  refine r_parX 13 mixed (by kernel_rfl) (by rfl) ?_
  first | refine p_q _ rfl rfl rfl (fun _ _ => v_ldW rfl Tryd.underlying25 rfl inf25 rfl rfl) ?_ | refine p_q _ rfl rfl rfl (fun _ _ => v_lfW rfl Tryd.underlying25 rfl inf25 rfl rfl) ?_ | refine p_q _ rfl rfl rfl (fun _ _ => v_lfN rfl Tryd.underlying25 rfl inf25 rfl rfl rfl) ?_ | refine p_q _ rfl rfl rfl (fun _ _ => v_ldN rfl Tryd.underlying25 rfl inf25 rfl rfl rfl) ?_ | refine p_q _ rfl rfl rfl (fun _ _ => v_loadEN rfl Tryd.underlying25 rfl inf25 rfl (by omega) rfl rfl rfl) ?_
  first | refine p_q _ rfl rfl rfl (fun _ _ => v_ldW rfl Tryd.underlying25 rfl inf25 rfl rfl) ?_ | refine p_q _ rfl rfl rfl (fun _ _ => v_lfW rfl Tryd.underlying25 rfl inf25 rfl rfl) ?_ | refine p_q _ rfl rfl rfl (fun _ _ => v_lfN rfl Tryd.underlying25 rfl inf25 rfl rfl rfl) ?_ | refine p_q _ rfl rfl rfl (fun _ _ => v_ldN rfl Tryd.underlying25 rfl inf25 rfl rfl rfl) ?_ | refine p_q _ rfl rfl rfl (fun _ _ => v_loadEN rfl Tryd.underlying25 rfl inf25 rfl (by omega) rfl rfl rfl) ?_
  refine p_q _ rfl rfl rfl (fun _ _ => v_move rfl rfl) ?_
  refine p_q _ rfl rfl rfl (fun _ _ => v_cast (v := .bool false) (OpQ.fn (isWho_v D uo po uc pc who) rfl rfl SubRC.sub) (congrArg Value.bool h1)) ?_
  refine p_q _ rfl rfl rfl (fun _ _ => v_move rfl rfl) ?_
  first | refine p_gn rfl rfl rfl rfl ?_ | refine p_g _ rfl rfl rfl rfl (fun _ _ => v_move rfl rfl) ?_
  first | refine p_gn rfl rfl rfl rfl ?_ | refine p_g _ rfl rfl rfl rfl (fun _ _ => OpQ.fn (isDay_v d) rfl rfl SubRC.sub) ?_
  first | refine p_q _ rfl rfl rfl (fun _ _ => v_pick_t rfl rfl rfl) ?_ | refine p_q _ rfl rfl rfl (fun _ _ => v_pick_f rfl rfl rfl) ?_
  refine p_deadX (look_x2 D uo po uc pc hl1 hl2 hg) rfl rfl rfl rfl rfl SubRC.sub ?_
  refine p_q _ rfl rfl rfl (fun _ _ => v_move rfl rfl) ?_
  refine p_q _ rfl rfl rfl (fun _ _ => v_move rfl rfl) ?_
  refine p_acc (by simp only [List.nil_append, List.cons_append]; rfl) ?_
  refine p_dead 8 rfl rfl rfl (fun _ h => h) (by kernel_rfl) rfl rfl rfl ?_
  refine p_alloc rfl inf29 rfl rfl rfl rfl rfl ?_
  refine p_nilX (panOf (.iface 103 (i64 2))) (by simp only [List.nil_append, List.cons_append]; rfl) rfl (by kernel_rfl) rfl ?_ ?_
  ·
    repeat (first | with_reducible refine r_then_panic ?_ | with_reducible refine r_in_panic ?_ | with_reducible refine r_sc_panic ?_)
    exact d_panv answer_ans (Rd.two rfl (RdI.tmp rfl) (RdI.cell1 Tryd.underlying30 rfl rfl rfl)) (by rw [setlB, ansD_n (chkD_2 hg (okF1 h1)) (by decide)]; try rfl) SelMC.sel SubRC.sub
  ·
    refine f_q rfl ?_
    refine f_q rfl ?_
    refine f_q rfl ?_
    refine f_q rfl ?_
    refine f_q rfl ?_
    refine f_q rfl ?_
    refine f_q rfl ?_
    refine f_q rfl ?_
    exact f_dead
set_option maxHeartbeats 4000000 in
theorem setl18_x2b (who d : Int) (hl1 : D.dues.length ≤ 40) (hl2 : D.paid.length ≤ 40) (hg : GoodD D) (h1 : isW D who = true) (h2 : isDy d = false) : FnV Tryd.prog 18 [valD D uo po uc pc, i64 who, i64 d] [rowD uo 5 encD D.dues, rowD po 4 encP D.paid, rowD (some ⟨0, 0, none⟩) 1 encE ([0, 1] : List Nat)] (.tuple #[i64 (setlB D who d).1, i64 (setlB D who d).2]) := by
  refine FnV.introD Tryd.call18 Tryd.func18 rfl Tryd.ntmps18 rfl ?_
  intro W M Rf
  refine r_seq ?_
  refine r_region ?_
  refine o_boxA rfl rfl rfl rfl rfl (fun b3 => ?_)
  refine o_q _ rfl rfl rfl (v_assign rfl rfl) ?_
  refine o_alloc rfl inf30 rfl rfl rfl rfl rfl (fun b7 => ?_)
  refine o_nil ?_
  repeat (first | with_reducible refine r_then ?_ | with_reducible refine r_in_normal ?_ | with_reducible refine r_sc_normal ?_)
  refine r_seq ?_
  refine r_region ?_
  refine o_defer rfl rfl rfl rfl ?_
  refine o_nil ?_
  repeat (first | with_reducible refine r_then ?_ | with_reducible refine r_in_normal ?_ | with_reducible refine r_sc_normal ?_)
  refine r_seq ?_
  refine r_parX 13 mixed (by kernel_rfl) (by rfl) ?_
  first | refine p_q _ rfl rfl rfl (fun _ _ => v_ldW rfl Tryd.underlying25 rfl inf25 rfl rfl) ?_ | refine p_q _ rfl rfl rfl (fun _ _ => v_lfW rfl Tryd.underlying25 rfl inf25 rfl rfl) ?_ | refine p_q _ rfl rfl rfl (fun _ _ => v_lfN rfl Tryd.underlying25 rfl inf25 rfl rfl rfl) ?_ | refine p_q _ rfl rfl rfl (fun _ _ => v_ldN rfl Tryd.underlying25 rfl inf25 rfl rfl rfl) ?_ | refine p_q _ rfl rfl rfl (fun _ _ => v_loadEN rfl Tryd.underlying25 rfl inf25 rfl (by omega) rfl rfl rfl) ?_
  first | refine p_q _ rfl rfl rfl (fun _ _ => v_ldW rfl Tryd.underlying25 rfl inf25 rfl rfl) ?_ | refine p_q _ rfl rfl rfl (fun _ _ => v_lfW rfl Tryd.underlying25 rfl inf25 rfl rfl) ?_ | refine p_q _ rfl rfl rfl (fun _ _ => v_lfN rfl Tryd.underlying25 rfl inf25 rfl rfl rfl) ?_ | refine p_q _ rfl rfl rfl (fun _ _ => v_ldN rfl Tryd.underlying25 rfl inf25 rfl rfl rfl) ?_ | refine p_q _ rfl rfl rfl (fun _ _ => v_loadEN rfl Tryd.underlying25 rfl inf25 rfl (by omega) rfl rfl rfl) ?_
  refine p_q _ rfl rfl rfl (fun _ _ => v_move rfl rfl) ?_
  refine p_q _ rfl rfl rfl (fun _ _ => v_cast (v := .bool true) (OpQ.fn (isWho_v D uo po uc pc who) rfl rfl SubRC.sub) (congrArg Value.bool h1)) ?_
  refine p_q _ rfl rfl rfl (fun _ _ => v_move rfl rfl) ?_
  first | refine p_gn rfl rfl rfl rfl ?_ | refine p_g _ rfl rfl rfl rfl (fun _ _ => v_move rfl rfl) ?_
  first | refine p_gn rfl rfl rfl rfl ?_ | refine p_g _ rfl rfl rfl rfl (fun _ _ => v_cast (v := .bool false) (OpQ.fn (isDay_v d) rfl rfl SubRC.sub) (congrArg Value.bool h2)) ?_
  first | refine p_q _ rfl rfl rfl (fun _ _ => v_pick_t rfl rfl rfl) ?_ | refine p_q _ rfl rfl rfl (fun _ _ => v_pick_f rfl rfl rfl) ?_
  refine p_deadX (look_x2 D uo po uc pc hl1 hl2 hg) rfl rfl rfl rfl rfl SubRC.sub ?_
  refine p_q _ rfl rfl rfl (fun _ _ => v_move rfl rfl) ?_
  refine p_q _ rfl rfl rfl (fun _ _ => v_move rfl rfl) ?_
  refine p_acc (by simp only [List.nil_append, List.cons_append]; rfl) ?_
  refine p_dead 8 rfl rfl rfl (fun _ h => h) (by kernel_rfl) rfl rfl rfl ?_
  refine p_alloc rfl inf29 rfl rfl rfl rfl rfl ?_
  refine p_nilX (panOf (.iface 103 (i64 2))) (by simp only [List.nil_append, List.cons_append]; rfl) rfl (by kernel_rfl) rfl ?_ ?_
  ·
    repeat (first | with_reducible refine r_then_panic ?_ | with_reducible refine r_in_panic ?_ | with_reducible refine r_sc_panic ?_)
    exact d_panv answer_ans (Rd.two rfl (RdI.tmp rfl) (RdI.cell1 Tryd.underlying30 rfl rfl rfl)) (by rw [setlB, ansD_n (chkD_2 hg (okF2 h2)) (by decide)]; try rfl) SelMC.sel SubRC.sub
  ·
    refine f_q rfl ?_
    refine f_q rfl ?_
    refine f_q rfl ?_
    refine f_q rfl ?_
    refine f_q rfl ?_
    refine f_q rfl ?_
    refine f_q rfl ?_
    refine f_q rfl ?_
    exact f_dead
set_option maxHeartbeats 4000000 in
theorem setl18_ok (who d : Int) (hl1 : D.dues.length ≤ 40) (hl2 : D.paid.length ≤ 40) (hg : GoodD D) (h1 : isW D who = true) (h2 : isDy d = true) : FnV Tryd.prog 18 [valD D uo po uc pc, i64 who, i64 d] [rowD uo 5 encD D.dues, rowD po 4 encP D.paid, rowD (some ⟨0, 0, none⟩) 1 encE ([0, 1] : List Nat)] (.tuple #[i64 (setlB D who d).1, i64 (setlB D who d).2]) := by
  obtain ⟨dn, rfl⟩ : ∃ n : Nat, d = n := ⟨d.toNat, by have := of_decide_eq_true h2; omega⟩
  have hd := of_decide_eq_true h2
  have hq1 := hg.np
  have hwr : IntKind.i64.wrap (D.people - 1) = D.people - 1 := IntWalk.i64_in _ (by omega)
  have hwh := of_decide_eq_true h1
  have hdn : dn ≤ 30 := by omega
  have hwb : -1000 ≤ who ∧ who ≤ 1000 := by omega
  refine FnV.introD Tryd.call18 Tryd.func18 rfl Tryd.ntmps18 rfl ?_
  intro W M Rf
  refine r_seq ?_
  refine r_region ?_
  refine o_boxA rfl rfl rfl rfl rfl (fun b3 => ?_)
  refine o_q _ rfl rfl rfl (v_assign rfl rfl) ?_
  refine o_alloc rfl inf30 rfl rfl rfl rfl rfl (fun b7 => ?_)
  refine o_nil ?_
  repeat (first | with_reducible refine r_then ?_ | with_reducible refine r_in_normal ?_ | with_reducible refine r_sc_normal ?_)
  refine r_seq ?_
  refine r_region ?_
  refine o_defer rfl rfl rfl rfl ?_
  refine o_nil ?_
  repeat (first | with_reducible refine r_then ?_ | with_reducible refine r_in_normal ?_ | with_reducible refine r_sc_normal ?_)
  refine r_seq ?_
  refine r_par' 13 mixed (by kernel_rfl) (by rfl) ?_
  first | refine p_q _ rfl rfl rfl (fun _ _ => v_ldW rfl Tryd.underlying25 rfl inf25 rfl rfl) ?_ | refine p_q _ rfl rfl rfl (fun _ _ => v_lfW rfl Tryd.underlying25 rfl inf25 rfl rfl) ?_ | refine p_q _ rfl rfl rfl (fun _ _ => v_lfN rfl Tryd.underlying25 rfl inf25 rfl rfl rfl) ?_ | refine p_q _ rfl rfl rfl (fun _ _ => v_ldN rfl Tryd.underlying25 rfl inf25 rfl rfl rfl) ?_ | refine p_q _ rfl rfl rfl (fun _ _ => v_loadEN rfl Tryd.underlying25 rfl inf25 rfl (by omega) rfl rfl rfl) ?_
  first | refine p_q _ rfl rfl rfl (fun _ _ => v_ldW rfl Tryd.underlying25 rfl inf25 rfl rfl) ?_ | refine p_q _ rfl rfl rfl (fun _ _ => v_lfW rfl Tryd.underlying25 rfl inf25 rfl rfl) ?_ | refine p_q _ rfl rfl rfl (fun _ _ => v_lfN rfl Tryd.underlying25 rfl inf25 rfl rfl rfl) ?_ | refine p_q _ rfl rfl rfl (fun _ _ => v_ldN rfl Tryd.underlying25 rfl inf25 rfl rfl rfl) ?_ | refine p_q _ rfl rfl rfl (fun _ _ => v_loadEN rfl Tryd.underlying25 rfl inf25 rfl (by omega) rfl rfl rfl) ?_
  refine p_q _ rfl rfl rfl (fun _ _ => v_move rfl rfl) ?_
  refine p_q _ rfl rfl rfl (fun _ _ => v_cast (v := .bool true) (OpQ.fn (isWho_v D uo po uc pc who) rfl rfl SubRC.sub) (congrArg Value.bool h1)) ?_
  refine p_q _ rfl rfl rfl (fun _ _ => v_move rfl rfl) ?_
  first | refine p_gn rfl rfl rfl rfl ?_ | refine p_g _ rfl rfl rfl rfl (fun _ _ => v_move rfl rfl) ?_
  first | refine p_gn rfl rfl rfl rfl ?_ | refine p_g _ rfl rfl rfl rfl (fun _ _ => v_cast (v := .bool true) (OpQ.fn (isDay_v _) rfl rfl SubRC.sub) (congrArg Value.bool h2)) ?_
  first | refine p_q _ rfl rfl rfl (fun _ _ => v_pick_t rfl rfl rfl) ?_ | refine p_q _ rfl rfl rfl (fun _ _ => v_pick_f rfl rfl rfl) ?_
  refine p_openL 11 (look_ok D uo po uc pc hl1 hl2 hg) rfl rfl rfl rfl rfl SubRC.sub ?_
  refine p_q _ rfl rfl rfl (fun _ _ => v_move rfl rfl) ?_
  refine p_q _ rfl rfl rfl (fun _ _ => v_move rfl rfl) ?_
  refine p_acc (by simp only [List.nil_append, List.cons_append]; rfl) ?_
  refine p_takeN 8 (led_left D uo po uc pc who dn hg hwb hdn) rfl rfl rfl (fun b => rfl) rfl (by kernel_rfl) rfl rfl rfl SubRC.sub ?_
  refine p_alloc rfl inf29 rfl rfl rfl rfl rfl ?_
  refine p_nil2 (by simp only [List.nil_append, List.cons_append]; rfl) rfl ?_ (by kernel_rfl)
  refine f_q rfl ?_
  refine f_q rfl ?_
  refine f_q rfl ?_
  refine f_q rfl ?_
  refine f_q rfl ?_
  refine f_q rfl ?_
  refine f_q rfl ?_
  refine f_q rfl ?_
  refine f_openL rfl (fun b17 => ?_)
  refine f_q rfl ?_
  refine f_q rfl ?_
  refine f_take rfl ?_
  refine f_alloc rfl (fun b8 => ?_)
  refine f_nil ?_
  refine o_st rfl inf29 rfl rfl rfl rfl rfl rfl rfl rfl ?_
  refine o_nil ?_
  repeat (first | with_reducible refine r_then ?_ | with_reducible refine r_in_normal ?_ | with_reducible refine r_sc_normal ?_)
  refine r_seq ?_
  refine r_block ?_
  refine r_seq ?_
  refine Imp.box_to b8 [i64 (leftT D who dn).lo, i64 (leftT D who dn).hi] rfl ?_
  refine r_region ?_
  first | refine o_q _ rfl rfl rfl (v_fieldAddr rfl Tryd.underlying29 inf3 rfl rfl rfl rfl) ?_ | refine o_q _ rfl rfl rfl (v_fieldAddrE rfl Tryd.underlying29 inf3 rfl rfl rfl rfl) ?_
  first | refine o_q _ rfl rfl rfl (v_ld1 rfl Tryd.underlying3 rfl rfl rfl) ?_ | refine o_q _ rfl rfl rfl (v_lf1 rfl Tryd.underlying3 rfl rfl rfl) ?_ | refine o_q _ rfl rfl rfl (v_loadE1 rfl Tryd.underlying3 rfl rfl (by omega) rfl rfl) ?_
  refine o_q _ rfl rfl rfl (v_eql rfl rfl rfl) ?_
  refine o_q _ rfl rfl rfl (v_assign rfl rfl) ?_
  refine o_nil ?_
  repeat (first | with_reducible refine r_then ?_ | with_reducible refine r_in_normal ?_ | with_reducible refine r_sc_normal ?_)
  first | refine r_condd rfl (fun hc21 => ?_) (fun hc21 => ?_) | refine r_cond rfl (fun hc21 => ?_) (fun hc21 => ?_)
  ·
    first
    | (exfalso; revert hc21; decide)
    | (exfalso; omega)
    | skip
      refine r_seq ?_
      refine r_region ?_
      refine o_q _ rfl rfl rfl (v_assign rfl rfl) ?_
      refine o_st rfl inf30 rfl rfl rfl rfl rfl rfl rfl rfl ?_
      refine o_nil ?_
      repeat (first | with_reducible refine r_then ?_ | with_reducible refine r_in_normal ?_ | with_reducible refine r_sc_normal ?_)
      refine r_ret ?_
      repeat (first | with_reducible refine r_then_ret ?_ | with_reducible refine r_in_ret ?_ | with_reducible refine r_sc_ret ?_)
      first
      | exact d_retv answer_ans (Rd.two rfl (RdI.tmp rfl) (RdI.cell1 Tryd.underlying30 rfl rfl rfl)) (by rw [setlB, ansD_0 (chkD_0 hg (okT h1 h2)), Int.toNat_natCast, grade_2 (by omega)]; try rfl) SelMC.sel SubRC.sub
      | exact d_retv answer_ans (Rd.two rfl (RdI.tmp rfl) (RdI.cell1 Tryd.underlying30 rfl rfl rfl)) (by rw [setlB, ansD_0 (chkD_0 hg (okT h1 h2)), Int.toNat_natCast, grade_1 (by omega) (by omega)]; try rfl) SelMC.sel SubRC.sub
      | exact d_retv answer_ans (Rd.two rfl (RdI.tmp rfl) (RdI.cell1 Tryd.underlying30 rfl rfl rfl)) (by rw [setlB, ansD_0 (chkD_0 hg (okT h1 h2)), Int.toNat_natCast, grade_0 (by omega) (by omega)]; try rfl) SelMC.sel SubRC.sub
  ·
    first
    | (exfalso; revert hc21; decide)
    | (exfalso; omega)
    | skip
      refine r_seq ?_
      refine r_region ?_
      first | refine o_q _ rfl rfl rfl (v_fieldAddr rfl Tryd.underlying29 inf3 rfl rfl rfl rfl) ?_ | refine o_q _ rfl rfl rfl (v_fieldAddrE rfl Tryd.underlying29 inf3 rfl rfl rfl rfl) ?_
      first | refine o_q _ rfl rfl rfl (v_ld1 rfl Tryd.underlying3 rfl rfl rfl) ?_ | refine o_q _ rfl rfl rfl (v_lf1 rfl Tryd.underlying3 rfl rfl rfl) ?_ | refine o_q _ rfl rfl rfl (v_loadE1 rfl Tryd.underlying3 rfl rfl (by omega) rfl rfl) ?_
      refine o_q _ rfl rfl rfl (v_eql rfl rfl rfl) ?_
      refine o_q _ rfl rfl rfl (v_assign rfl rfl) ?_
      refine o_nil ?_
      repeat (first | with_reducible refine r_then ?_ | with_reducible refine r_in_normal ?_ | with_reducible refine r_sc_normal ?_)
      first | refine r_condd rfl (fun hc25 => ?_) (fun hc25 => ?_) | refine r_cond rfl (fun hc25 => ?_) (fun hc25 => ?_)
      ·
        first
        | (exfalso; revert hc25; decide)
        | (exfalso; omega)
        | skip
          refine r_seq ?_
          refine r_region ?_
          refine o_q _ rfl rfl rfl (v_assign rfl rfl) ?_
          refine o_st rfl inf30 rfl rfl rfl rfl rfl rfl rfl rfl ?_
          refine o_nil ?_
          repeat (first | with_reducible refine r_then ?_ | with_reducible refine r_in_normal ?_ | with_reducible refine r_sc_normal ?_)
          refine r_ret ?_
          repeat (first | with_reducible refine r_then_ret ?_ | with_reducible refine r_in_ret ?_ | with_reducible refine r_sc_ret ?_)
          first
          | exact d_retv answer_ans (Rd.two rfl (RdI.tmp rfl) (RdI.cell1 Tryd.underlying30 rfl rfl rfl)) (by rw [setlB, ansD_0 (chkD_0 hg (okT h1 h2)), Int.toNat_natCast, grade_2 (by omega)]; try rfl) SelMC.sel SubRC.sub
          | exact d_retv answer_ans (Rd.two rfl (RdI.tmp rfl) (RdI.cell1 Tryd.underlying30 rfl rfl rfl)) (by rw [setlB, ansD_0 (chkD_0 hg (okT h1 h2)), Int.toNat_natCast, grade_1 (by omega) (by omega)]; try rfl) SelMC.sel SubRC.sub
          | exact d_retv answer_ans (Rd.two rfl (RdI.tmp rfl) (RdI.cell1 Tryd.underlying30 rfl rfl rfl)) (by rw [setlB, ansD_0 (chkD_0 hg (okT h1 h2)), Int.toNat_natCast, grade_0 (by omega) (by omega)]; try rfl) SelMC.sel SubRC.sub
      ·
        first
        | (exfalso; revert hc25; decide)
        | (exfalso; omega)
        | skip
          refine r_skip ?_
          repeat (first | with_reducible refine r_then ?_ | with_reducible refine r_in_normal ?_ | with_reducible refine r_sc_normal ?_)
          refine r_seq ?_
          refine r_region ?_
          refine o_q _ rfl rfl rfl (v_assign rfl rfl) ?_
          refine o_st rfl inf30 rfl rfl rfl rfl rfl rfl rfl rfl ?_
          refine o_nil ?_
          repeat (first | with_reducible refine r_then ?_ | with_reducible refine r_in_normal ?_ | with_reducible refine r_sc_normal ?_)
          refine r_ret ?_
          repeat (first | with_reducible refine r_then_ret ?_ | with_reducible refine r_in_ret ?_ | with_reducible refine r_sc_ret ?_)
          first
          | exact d_retv answer_ans (Rd.two rfl (RdI.tmp rfl) (RdI.cell1 Tryd.underlying30 rfl rfl rfl)) (by rw [setlB, ansD_0 (chkD_0 hg (okT h1 h2)), Int.toNat_natCast, grade_2 (by omega)]; try rfl) SelMC.sel SubRC.sub
          | exact d_retv answer_ans (Rd.two rfl (RdI.tmp rfl) (RdI.cell1 Tryd.underlying30 rfl rfl rfl)) (by rw [setlB, ansD_0 (chkD_0 hg (okT h1 h2)), Int.toNat_natCast, grade_1 (by omega) (by omega)]; try rfl) SelMC.sel SubRC.sub
          | exact d_retv answer_ans (Rd.two rfl (RdI.tmp rfl) (RdI.cell1 Tryd.underlying30 rfl rfl rfl)) (by rw [setlB, ansD_0 (chkD_0 hg (okT h1 h2)), Int.toNat_natCast, grade_0 (by omega) (by omega)]; try rfl) SelMC.sel SubRC.sub
theorem setl18_v (who d : Int) (hl1 : D.dues.length ≤ 40) (hl2 : D.paid.length ≤ 40) : FnV Tryd.prog 18 [valD D uo po uc pc, i64 who, i64 d] [rowD uo 5 encD D.dues, rowD po 4 encP D.paid, rowD (some ⟨0, 0, none⟩) 1 encE ([0, 1] : List Nat)] (.tuple #[i64 (setlB D who d).1, i64 (setlB D who d).2]) := by
  by_cases hg : GoodD D
  · cases h1 : isW D who
    · exact setl18_x2a D uo po uc pc who d hl1 hl2 hg h1
    · cases h2 : isDy d
      · exact setl18_x2b D uo po uc pc who d hl1 hl2 hg h1 h2
      · exact setl18_ok D uo po uc pc who d hl1 hl2 hg h1 h2
  · cases h1 : isW D who
    · exact setl18_x1a D uo po uc pc who d hl1 hl2 hg h1
    · exact setl18_x1b D uo po uc pc who d hl1 hl2 hg h1
theorem depF {P Q : List Opn × Int} {u : Value} (h : isAA P Q u) : isA P (fstT u) ∧ ∀ φ ∈ facA P (fstT u), φ ∈ facAA P Q u := by
  obtain ⟨x, y, hx, _, rfl⟩ := h
  exact ⟨hx, fun φ hφ => by rw [List.mem_singleton.1 hφ]; exact List.mem_cons_self ..⟩
theorem depS {P Q : List Opn × Int} {u : Value} (h : isAA P Q u) : isA Q (sndT u) ∧ ∀ φ ∈ facA Q (sndT u), φ ∈ facAA P Q u := by
  obtain ⟨x, y, _, hy, rfl⟩ := h
  exact ⟨hy, fun φ hφ => by rw [List.mem_singleton.1 hφ]; exact List.mem_cons_of_mem _ (List.mem_cons_self ..)⟩
theorem depX {P Q : List Opn × Int} {u : Value} {W : World} {n : Nat} {L : Tm} {M : List Res} {R : List Fact} {o : Oper} {x : Operand} (h : isAA P Q u) (ho : o.op = .extract x 0) (hx : ev L x = some u) : OpQ Tryd.prog W n L M R o (fstT u) := by
  obtain ⟨a, b, _, _, rfl⟩ := h
  exact v_extract ho hx rfl
theorem depY {P Q : List Opn × Int} {u : Value} {W : World} {n : Nat} {L : Tm} {M : List Res} {R : List Fact} {o : Oper} {x : Operand} (h : isAA P Q u) (ho : o.op = .extract x 1) (hx : ev L x = some u) : OpQ Tryd.prog W n L M R o (sndT u) := by
  obtain ⟨a, b, _, _, rfl⟩ := h
  exact v_extract ho hx rfl
theorem float_ext {n : Nat} {L : Tm} {o : Oper} {x : Operand} {j : Nat} {vs : List Value} {v : Value} (ho : o.op = .extract x j) (hx : ev L x = some (.tuple vs.toArray)) (hv : vs[j]? = some v) : ∀ a, FSat n L a → ∀ w, True → (execOp a.eval o).run Tryd.prog w = .ok (.value v) w := fun g h1 w _ => by simp [execOp, ho, h1.ev hx, Instr.extract, hv]
theorem floatS {P Q : List Opn × Int} {u : Value} {n : Nat} {L : Tm} {o : Oper} {x : Operand} (h : isAA P Q u) (ho : o.op = .extract x 1) (hx : ev L x = some u) : ∀ a, FSat n L a → ∀ w, True → (execOp a.eval o).run Tryd.prog w = .ok (.value (sndT u)) w := by
  obtain ⟨a, b, _, _, rfl⟩ := h
  exact float_ext (vs := [a, b]) ho hx rfl
set_option maxHeartbeats 4000000 in
theorem ahead16_x1a (who d : Int) (hl1 : D.dues.length ≤ 40) (hl2 : D.paid.length ≤ 40) (hng : ¬ GoodD D) (h1 : isW D who = false) : FnV Tryd.prog 16 [valD D uo po uc pc, i64 who, i64 d] [rowD uo 5 encD D.dues, rowD po 4 encP D.paid, rowD (some ⟨0, 0, none⟩) 1 encE ([0, 1] : List Nat)] (.tuple #[vS (aheadB D who d).1, i64 (aheadB D who d).2]) := by
  refine FnV.introD Tryd.call16 Tryd.func16 rfl Tryd.ntmps16 rfl ?_
  intro W M Rf
  refine r_seq ?_
  refine r_region ?_
  refine o_boxA rfl rfl rfl rfl rfl (fun b3 => ?_)
  refine o_alloc rfl inf29 rfl rfl rfl rfl rfl (fun b6 => ?_)
  refine o_alloc rfl inf30 rfl rfl rfl rfl rfl (fun b7 => ?_)
  refine o_nil ?_
  repeat (first | with_reducible refine r_then ?_ | with_reducible refine r_in_normal ?_ | with_reducible refine r_sc_normal ?_)
  refine r_seq ?_
  refine r_region ?_
  refine o_defer rfl rfl rfl rfl ?_
  refine o_nil ?_
  repeat (first | with_reducible refine r_then ?_ | with_reducible refine r_in_normal ?_ | with_reducible refine r_sc_normal ?_)
  refine r_seq ?_
  refine r_parX 19 mixed (by kernel_rfl) (by rfl) ?_
  first | refine p_q _ rfl rfl rfl (fun _ _ => v_ldW rfl Tryd.underlying25 rfl inf25 rfl rfl) ?_ | refine p_q _ rfl rfl rfl (fun _ _ => v_lfW rfl Tryd.underlying25 rfl inf25 rfl rfl) ?_ | refine p_q _ rfl rfl rfl (fun _ _ => v_lfN rfl Tryd.underlying25 rfl inf25 rfl rfl rfl) ?_ | refine p_q _ rfl rfl rfl (fun _ _ => v_ldN rfl Tryd.underlying25 rfl inf25 rfl rfl rfl) ?_ | refine p_q _ rfl rfl rfl (fun _ _ => v_loadEN rfl Tryd.underlying25 rfl inf25 rfl (by omega) rfl rfl rfl) ?_
  first | refine p_q _ rfl rfl rfl (fun _ _ => v_ldW rfl Tryd.underlying25 rfl inf25 rfl rfl) ?_ | refine p_q _ rfl rfl rfl (fun _ _ => v_lfW rfl Tryd.underlying25 rfl inf25 rfl rfl) ?_ | refine p_q _ rfl rfl rfl (fun _ _ => v_lfN rfl Tryd.underlying25 rfl inf25 rfl rfl rfl) ?_ | refine p_q _ rfl rfl rfl (fun _ _ => v_ldN rfl Tryd.underlying25 rfl inf25 rfl rfl rfl) ?_ | refine p_q _ rfl rfl rfl (fun _ _ => v_loadEN rfl Tryd.underlying25 rfl inf25 rfl (by omega) rfl rfl rfl) ?_
  refine p_q _ rfl rfl rfl (fun _ _ => v_move rfl rfl) ?_
  refine p_q _ rfl rfl rfl (fun _ _ => v_cast (v := .bool false) (OpQ.fn (isWho_v D uo po uc pc who) rfl rfl SubRC.sub) (congrArg Value.bool h1)) ?_
  refine p_q _ rfl rfl rfl (fun _ _ => v_move rfl rfl) ?_
  first | refine p_gn rfl rfl rfl rfl ?_ | refine p_g _ rfl rfl rfl rfl (fun _ _ => v_move rfl rfl) ?_
  first | refine p_gn rfl rfl rfl rfl ?_ | refine p_g _ rfl rfl rfl rfl (fun _ _ => OpQ.fn (isDay_v d) rfl rfl SubRC.sub) ?_
  first | refine p_q _ rfl rfl rfl (fun _ _ => v_pick_t rfl rfl rfl) ?_ | refine p_q _ rfl rfl rfl (fun _ _ => v_pick_f rfl rfl rfl) ?_
  refine p_deadX (look_x1 D uo po uc pc _ hl1 hl2 hng) rfl rfl rfl rfl rfl SubRC.sub ?_
  refine p_q _ rfl rfl rfl (fun _ _ => v_move rfl rfl) ?_
  refine p_q _ rfl rfl rfl (fun _ _ => v_move rfl rfl) ?_
  refine p_acc (by simp only [List.nil_append, List.cons_append]; rfl) ?_
  refine p_dead 8 rfl rfl rfl (fun _ h => h) (by kernel_rfl) rfl rfl rfl ?_
  refine p_acc (by simp only [List.nil_append, List.cons_append]; rfl) ?_
  refine p_dead 11 rfl rfl rfl (fun _ h => h) (by kernel_rfl) rfl rfl rfl ?_
  refine p_acc (by simp only [List.nil_append, List.cons_append]; rfl) ?_
  refine p_dead 12 rfl rfl rfl (fun _ h => h) (by kernel_rfl) rfl rfl rfl ?_
  refine p_acc (by simp only [List.nil_append, List.cons_append]; rfl) ?_
  refine p_dead 12 rfl rfl rfl (fun _ h => h) (by kernel_rfl) rfl rfl rfl ?_
  refine p_alloc rfl inf77 rfl rfl rfl rfl rfl ?_
  refine p_alloc rfl inf77 rfl rfl rfl rfl rfl ?_
  refine p_acc (by simp only [List.nil_append, List.cons_append]; rfl) ?_
  refine p_deadS 13 rfl rfl rfl (fun _ h => h) (by kernel_rfl) rfl rfl ?_
  refine p_acc (by simp only [List.nil_append, List.cons_append]; rfl) ?_
  refine p_deadS 14 rfl rfl rfl (fun _ h => h) (by kernel_rfl) rfl rfl ?_
  refine p_nilX (panOf (.iface 103 (i64 1))) (by simp only [List.nil_append, List.cons_append]; rfl) rfl (by kernel_rfl) rfl ?_ ?_
  ·
    repeat (first | with_reducible refine r_then_panic ?_ | with_reducible refine r_in_panic ?_ | with_reducible refine r_sc_panic ?_)
    exact d_panv answer_ans (Rd.two rfl (RdI.cellW Tryd.underlying29 rfl inf29 rfl rfl) (RdI.cell1 Tryd.underlying30 rfl rfl rfl)) (by rw [aheadB, ansD_n (chkD_1 hng) (by decide)]; try rfl) SelMC.sel SubRC.sub
  ·
    refine f_q rfl ?_
    refine f_q rfl ?_
    refine f_q rfl ?_
    refine f_q rfl ?_
    refine f_q rfl ?_
    refine f_q rfl ?_
    refine f_q rfl ?_
    refine f_q rfl ?_
    exact f_dead
set_option maxHeartbeats 4000000 in
theorem ahead16_x1b (who d : Int) (hl1 : D.dues.length ≤ 40) (hl2 : D.paid.length ≤ 40) (hng : ¬ GoodD D) (h1 : isW D who = true) : FnV Tryd.prog 16 [valD D uo po uc pc, i64 who, i64 d] [rowD uo 5 encD D.dues, rowD po 4 encP D.paid, rowD (some ⟨0, 0, none⟩) 1 encE ([0, 1] : List Nat)] (.tuple #[vS (aheadB D who d).1, i64 (aheadB D who d).2]) := by
  refine FnV.introD Tryd.call16 Tryd.func16 rfl Tryd.ntmps16 rfl ?_
  intro W M Rf
  refine r_seq ?_
  refine r_region ?_
  refine o_boxA rfl rfl rfl rfl rfl (fun b3 => ?_)
  refine o_alloc rfl inf29 rfl rfl rfl rfl rfl (fun b6 => ?_)
  refine o_alloc rfl inf30 rfl rfl rfl rfl rfl (fun b7 => ?_)
  refine o_nil ?_
  repeat (first | with_reducible refine r_then ?_ | with_reducible refine r_in_normal ?_ | with_reducible refine r_sc_normal ?_)
  refine r_seq ?_
  refine r_region ?_
  refine o_defer rfl rfl rfl rfl ?_
  refine o_nil ?_
  repeat (first | with_reducible refine r_then ?_ | with_reducible refine r_in_normal ?_ | with_reducible refine r_sc_normal ?_)
  refine r_seq ?_
  refine r_parX 19 mixed (by kernel_rfl) (by rfl) ?_
  first | refine p_q _ rfl rfl rfl (fun _ _ => v_ldW rfl Tryd.underlying25 rfl inf25 rfl rfl) ?_ | refine p_q _ rfl rfl rfl (fun _ _ => v_lfW rfl Tryd.underlying25 rfl inf25 rfl rfl) ?_ | refine p_q _ rfl rfl rfl (fun _ _ => v_lfN rfl Tryd.underlying25 rfl inf25 rfl rfl rfl) ?_ | refine p_q _ rfl rfl rfl (fun _ _ => v_ldN rfl Tryd.underlying25 rfl inf25 rfl rfl rfl) ?_ | refine p_q _ rfl rfl rfl (fun _ _ => v_loadEN rfl Tryd.underlying25 rfl inf25 rfl (by omega) rfl rfl rfl) ?_
  first | refine p_q _ rfl rfl rfl (fun _ _ => v_ldW rfl Tryd.underlying25 rfl inf25 rfl rfl) ?_ | refine p_q _ rfl rfl rfl (fun _ _ => v_lfW rfl Tryd.underlying25 rfl inf25 rfl rfl) ?_ | refine p_q _ rfl rfl rfl (fun _ _ => v_lfN rfl Tryd.underlying25 rfl inf25 rfl rfl rfl) ?_ | refine p_q _ rfl rfl rfl (fun _ _ => v_ldN rfl Tryd.underlying25 rfl inf25 rfl rfl rfl) ?_ | refine p_q _ rfl rfl rfl (fun _ _ => v_loadEN rfl Tryd.underlying25 rfl inf25 rfl (by omega) rfl rfl rfl) ?_
  refine p_q _ rfl rfl rfl (fun _ _ => v_move rfl rfl) ?_
  refine p_q _ rfl rfl rfl (fun _ _ => v_cast (v := .bool true) (OpQ.fn (isWho_v D uo po uc pc who) rfl rfl SubRC.sub) (congrArg Value.bool h1)) ?_
  refine p_q _ rfl rfl rfl (fun _ _ => v_move rfl rfl) ?_
  first | refine p_gn rfl rfl rfl rfl ?_ | refine p_g _ rfl rfl rfl rfl (fun _ _ => v_move rfl rfl) ?_
  first | refine p_gn rfl rfl rfl rfl ?_ | refine p_g _ rfl rfl rfl rfl (fun _ _ => OpQ.fn (isDay_v d) rfl rfl SubRC.sub) ?_
  first | refine p_q _ rfl rfl rfl (fun _ _ => v_pick_t rfl rfl rfl) ?_ | refine p_q _ rfl rfl rfl (fun _ _ => v_pick_f rfl rfl rfl) ?_
  refine p_deadX (look_x1 D uo po uc pc _ hl1 hl2 hng) rfl rfl rfl rfl rfl SubRC.sub ?_
  refine p_q _ rfl rfl rfl (fun _ _ => v_move rfl rfl) ?_
  refine p_q _ rfl rfl rfl (fun _ _ => v_move rfl rfl) ?_
  refine p_acc (by simp only [List.nil_append, List.cons_append]; rfl) ?_
  refine p_dead 8 rfl rfl rfl (fun _ h => h) (by kernel_rfl) rfl rfl rfl ?_
  refine p_acc (by simp only [List.nil_append, List.cons_append]; rfl) ?_
  refine p_dead 11 rfl rfl rfl (fun _ h => h) (by kernel_rfl) rfl rfl rfl ?_
  refine p_acc (by simp only [List.nil_append, List.cons_append]; rfl) ?_
  refine p_dead 12 rfl rfl rfl (fun _ h => h) (by kernel_rfl) rfl rfl rfl ?_
  refine p_acc (by simp only [List.nil_append, List.cons_append]; rfl) ?_
  refine p_dead 12 rfl rfl rfl (fun _ h => h) (by kernel_rfl) rfl rfl rfl ?_
  refine p_alloc rfl inf77 rfl rfl rfl rfl rfl ?_
  refine p_alloc rfl inf77 rfl rfl rfl rfl rfl ?_
  refine p_acc (by simp only [List.nil_append, List.cons_append]; rfl) ?_
  refine p_deadS 13 rfl rfl rfl (fun _ h => h) (by kernel_rfl) rfl rfl ?_
  refine p_acc (by simp only [List.nil_append, List.cons_append]; rfl) ?_
  refine p_deadS 14 rfl rfl rfl (fun _ h => h) (by kernel_rfl) rfl rfl ?_
  refine p_nilX (panOf (.iface 103 (i64 1))) (by simp only [List.nil_append, List.cons_append]; rfl) rfl (by kernel_rfl) rfl ?_ ?_
  ·
    repeat (first | with_reducible refine r_then_panic ?_ | with_reducible refine r_in_panic ?_ | with_reducible refine r_sc_panic ?_)
    exact d_panv answer_ans (Rd.two rfl (RdI.cellW Tryd.underlying29 rfl inf29 rfl rfl) (RdI.cell1 Tryd.underlying30 rfl rfl rfl)) (by rw [aheadB, ansD_n (chkD_1 hng) (by decide)]; try rfl) SelMC.sel SubRC.sub
  ·
    refine f_q rfl ?_
    refine f_q rfl ?_
    refine f_q rfl ?_
    refine f_q rfl ?_
    refine f_q rfl ?_
    refine f_q rfl ?_
    refine f_q rfl ?_
    refine f_q rfl ?_
    exact f_dead
set_option maxHeartbeats 4000000 in
theorem ahead16_x2a (who d : Int) (hl1 : D.dues.length ≤ 40) (hl2 : D.paid.length ≤ 40) (hg : GoodD D) (h1 : isW D who = false) : FnV Tryd.prog 16 [valD D uo po uc pc, i64 who, i64 d] [rowD uo 5 encD D.dues, rowD po 4 encP D.paid, rowD (some ⟨0, 0, none⟩) 1 encE ([0, 1] : List Nat)] (.tuple #[vS (aheadB D who d).1, i64 (aheadB D who d).2]) := by
  refine FnV.introD Tryd.call16 Tryd.func16 rfl Tryd.ntmps16 rfl ?_
  intro W M Rf
  refine r_seq ?_
  refine r_region ?_
  refine o_boxA rfl rfl rfl rfl rfl (fun b3 => ?_)
  refine o_alloc rfl inf29 rfl rfl rfl rfl rfl (fun b6 => ?_)
  refine o_alloc rfl inf30 rfl rfl rfl rfl rfl (fun b7 => ?_)
  refine o_nil ?_
  repeat (first | with_reducible refine r_then ?_ | with_reducible refine r_in_normal ?_ | with_reducible refine r_sc_normal ?_)
  refine r_seq ?_
  refine r_region ?_
  refine o_defer rfl rfl rfl rfl ?_
  refine o_nil ?_
  repeat (first | with_reducible refine r_then ?_ | with_reducible refine r_in_normal ?_ | with_reducible refine r_sc_normal ?_)
  refine r_seq ?_
  refine r_parX 19 mixed (by kernel_rfl) (by rfl) ?_
  first | refine p_q _ rfl rfl rfl (fun _ _ => v_ldW rfl Tryd.underlying25 rfl inf25 rfl rfl) ?_ | refine p_q _ rfl rfl rfl (fun _ _ => v_lfW rfl Tryd.underlying25 rfl inf25 rfl rfl) ?_ | refine p_q _ rfl rfl rfl (fun _ _ => v_lfN rfl Tryd.underlying25 rfl inf25 rfl rfl rfl) ?_ | refine p_q _ rfl rfl rfl (fun _ _ => v_ldN rfl Tryd.underlying25 rfl inf25 rfl rfl rfl) ?_ | refine p_q _ rfl rfl rfl (fun _ _ => v_loadEN rfl Tryd.underlying25 rfl inf25 rfl (by omega) rfl rfl rfl) ?_
  first | refine p_q _ rfl rfl rfl (fun _ _ => v_ldW rfl Tryd.underlying25 rfl inf25 rfl rfl) ?_ | refine p_q _ rfl rfl rfl (fun _ _ => v_lfW rfl Tryd.underlying25 rfl inf25 rfl rfl) ?_ | refine p_q _ rfl rfl rfl (fun _ _ => v_lfN rfl Tryd.underlying25 rfl inf25 rfl rfl rfl) ?_ | refine p_q _ rfl rfl rfl (fun _ _ => v_ldN rfl Tryd.underlying25 rfl inf25 rfl rfl rfl) ?_ | refine p_q _ rfl rfl rfl (fun _ _ => v_loadEN rfl Tryd.underlying25 rfl inf25 rfl (by omega) rfl rfl rfl) ?_
  refine p_q _ rfl rfl rfl (fun _ _ => v_move rfl rfl) ?_
  refine p_q _ rfl rfl rfl (fun _ _ => v_cast (v := .bool false) (OpQ.fn (isWho_v D uo po uc pc who) rfl rfl SubRC.sub) (congrArg Value.bool h1)) ?_
  refine p_q _ rfl rfl rfl (fun _ _ => v_move rfl rfl) ?_
  first | refine p_gn rfl rfl rfl rfl ?_ | refine p_g _ rfl rfl rfl rfl (fun _ _ => v_move rfl rfl) ?_
  first | refine p_gn rfl rfl rfl rfl ?_ | refine p_g _ rfl rfl rfl rfl (fun _ _ => OpQ.fn (isDay_v d) rfl rfl SubRC.sub) ?_
  first | refine p_q _ rfl rfl rfl (fun _ _ => v_pick_t rfl rfl rfl) ?_ | refine p_q _ rfl rfl rfl (fun _ _ => v_pick_f rfl rfl rfl) ?_
  refine p_deadX (look_x2 D uo po uc pc hl1 hl2 hg) rfl rfl rfl rfl rfl SubRC.sub ?_
  refine p_q _ rfl rfl rfl (fun _ _ => v_move rfl rfl) ?_
  refine p_q _ rfl rfl rfl (fun _ _ => v_move rfl rfl) ?_
  refine p_acc (by simp only [List.nil_append, List.cons_append]; rfl) ?_
  refine p_dead 8 rfl rfl rfl (fun _ h => h) (by kernel_rfl) rfl rfl rfl ?_
  refine p_acc (by simp only [List.nil_append, List.cons_append]; rfl) ?_
  refine p_dead 11 rfl rfl rfl (fun _ h => h) (by kernel_rfl) rfl rfl rfl ?_
  refine p_acc (by simp only [List.nil_append, List.cons_append]; rfl) ?_
  refine p_dead 12 rfl rfl rfl (fun _ h => h) (by kernel_rfl) rfl rfl rfl ?_
  refine p_acc (by simp only [List.nil_append, List.cons_append]; rfl) ?_
  refine p_dead 12 rfl rfl rfl (fun _ h => h) (by kernel_rfl) rfl rfl rfl ?_
  refine p_alloc rfl inf77 rfl rfl rfl rfl rfl ?_
  refine p_alloc rfl inf77 rfl rfl rfl rfl rfl ?_
  refine p_acc (by simp only [List.nil_append, List.cons_append]; rfl) ?_
  refine p_deadS 13 rfl rfl rfl (fun _ h => h) (by kernel_rfl) rfl rfl ?_
  refine p_acc (by simp only [List.nil_append, List.cons_append]; rfl) ?_
  refine p_deadS 14 rfl rfl rfl (fun _ h => h) (by kernel_rfl) rfl rfl ?_
  refine p_nilX (panOf (.iface 103 (i64 2))) (by simp only [List.nil_append, List.cons_append]; rfl) rfl (by kernel_rfl) rfl ?_ ?_
  ·
    repeat (first | with_reducible refine r_then_panic ?_ | with_reducible refine r_in_panic ?_ | with_reducible refine r_sc_panic ?_)
    exact d_panv answer_ans (Rd.two rfl (RdI.cellW Tryd.underlying29 rfl inf29 rfl rfl) (RdI.cell1 Tryd.underlying30 rfl rfl rfl)) (by rw [aheadB, ansD_n (chkD_2 hg (okF1 h1)) (by decide)]; try rfl) SelMC.sel SubRC.sub
  ·
    refine f_q rfl ?_
    refine f_q rfl ?_
    refine f_q rfl ?_
    refine f_q rfl ?_
    refine f_q rfl ?_
    refine f_q rfl ?_
    refine f_q rfl ?_
    refine f_q rfl ?_
    exact f_dead
set_option maxHeartbeats 4000000 in
theorem ahead16_x2b (who d : Int) (hl1 : D.dues.length ≤ 40) (hl2 : D.paid.length ≤ 40) (hg : GoodD D) (h1 : isW D who = true) (h2 : isDy d = false) : FnV Tryd.prog 16 [valD D uo po uc pc, i64 who, i64 d] [rowD uo 5 encD D.dues, rowD po 4 encP D.paid, rowD (some ⟨0, 0, none⟩) 1 encE ([0, 1] : List Nat)] (.tuple #[vS (aheadB D who d).1, i64 (aheadB D who d).2]) := by
  refine FnV.introD Tryd.call16 Tryd.func16 rfl Tryd.ntmps16 rfl ?_
  intro W M Rf
  refine r_seq ?_
  refine r_region ?_
  refine o_boxA rfl rfl rfl rfl rfl (fun b3 => ?_)
  refine o_alloc rfl inf29 rfl rfl rfl rfl rfl (fun b6 => ?_)
  refine o_alloc rfl inf30 rfl rfl rfl rfl rfl (fun b7 => ?_)
  refine o_nil ?_
  repeat (first | with_reducible refine r_then ?_ | with_reducible refine r_in_normal ?_ | with_reducible refine r_sc_normal ?_)
  refine r_seq ?_
  refine r_region ?_
  refine o_defer rfl rfl rfl rfl ?_
  refine o_nil ?_
  repeat (first | with_reducible refine r_then ?_ | with_reducible refine r_in_normal ?_ | with_reducible refine r_sc_normal ?_)
  refine r_seq ?_
  refine r_parX 19 mixed (by kernel_rfl) (by rfl) ?_
  first | refine p_q _ rfl rfl rfl (fun _ _ => v_ldW rfl Tryd.underlying25 rfl inf25 rfl rfl) ?_ | refine p_q _ rfl rfl rfl (fun _ _ => v_lfW rfl Tryd.underlying25 rfl inf25 rfl rfl) ?_ | refine p_q _ rfl rfl rfl (fun _ _ => v_lfN rfl Tryd.underlying25 rfl inf25 rfl rfl rfl) ?_ | refine p_q _ rfl rfl rfl (fun _ _ => v_ldN rfl Tryd.underlying25 rfl inf25 rfl rfl rfl) ?_ | refine p_q _ rfl rfl rfl (fun _ _ => v_loadEN rfl Tryd.underlying25 rfl inf25 rfl (by omega) rfl rfl rfl) ?_
  first | refine p_q _ rfl rfl rfl (fun _ _ => v_ldW rfl Tryd.underlying25 rfl inf25 rfl rfl) ?_ | refine p_q _ rfl rfl rfl (fun _ _ => v_lfW rfl Tryd.underlying25 rfl inf25 rfl rfl) ?_ | refine p_q _ rfl rfl rfl (fun _ _ => v_lfN rfl Tryd.underlying25 rfl inf25 rfl rfl rfl) ?_ | refine p_q _ rfl rfl rfl (fun _ _ => v_ldN rfl Tryd.underlying25 rfl inf25 rfl rfl rfl) ?_ | refine p_q _ rfl rfl rfl (fun _ _ => v_loadEN rfl Tryd.underlying25 rfl inf25 rfl (by omega) rfl rfl rfl) ?_
  refine p_q _ rfl rfl rfl (fun _ _ => v_move rfl rfl) ?_
  refine p_q _ rfl rfl rfl (fun _ _ => v_cast (v := .bool true) (OpQ.fn (isWho_v D uo po uc pc who) rfl rfl SubRC.sub) (congrArg Value.bool h1)) ?_
  refine p_q _ rfl rfl rfl (fun _ _ => v_move rfl rfl) ?_
  first | refine p_gn rfl rfl rfl rfl ?_ | refine p_g _ rfl rfl rfl rfl (fun _ _ => v_move rfl rfl) ?_
  first | refine p_gn rfl rfl rfl rfl ?_ | refine p_g _ rfl rfl rfl rfl (fun _ _ => v_cast (v := .bool false) (OpQ.fn (isDay_v d) rfl rfl SubRC.sub) (congrArg Value.bool h2)) ?_
  first | refine p_q _ rfl rfl rfl (fun _ _ => v_pick_t rfl rfl rfl) ?_ | refine p_q _ rfl rfl rfl (fun _ _ => v_pick_f rfl rfl rfl) ?_
  refine p_deadX (look_x2 D uo po uc pc hl1 hl2 hg) rfl rfl rfl rfl rfl SubRC.sub ?_
  refine p_q _ rfl rfl rfl (fun _ _ => v_move rfl rfl) ?_
  refine p_q _ rfl rfl rfl (fun _ _ => v_move rfl rfl) ?_
  refine p_acc (by simp only [List.nil_append, List.cons_append]; rfl) ?_
  refine p_dead 8 rfl rfl rfl (fun _ h => h) (by kernel_rfl) rfl rfl rfl ?_
  refine p_acc (by simp only [List.nil_append, List.cons_append]; rfl) ?_
  refine p_dead 11 rfl rfl rfl (fun _ h => h) (by kernel_rfl) rfl rfl rfl ?_
  refine p_acc (by simp only [List.nil_append, List.cons_append]; rfl) ?_
  refine p_dead 12 rfl rfl rfl (fun _ h => h) (by kernel_rfl) rfl rfl rfl ?_
  refine p_acc (by simp only [List.nil_append, List.cons_append]; rfl) ?_
  refine p_dead 12 rfl rfl rfl (fun _ h => h) (by kernel_rfl) rfl rfl rfl ?_
  refine p_alloc rfl inf77 rfl rfl rfl rfl rfl ?_
  refine p_alloc rfl inf77 rfl rfl rfl rfl rfl ?_
  refine p_acc (by simp only [List.nil_append, List.cons_append]; rfl) ?_
  refine p_deadS 13 rfl rfl rfl (fun _ h => h) (by kernel_rfl) rfl rfl ?_
  refine p_acc (by simp only [List.nil_append, List.cons_append]; rfl) ?_
  refine p_deadS 14 rfl rfl rfl (fun _ h => h) (by kernel_rfl) rfl rfl ?_
  refine p_nilX (panOf (.iface 103 (i64 2))) (by simp only [List.nil_append, List.cons_append]; rfl) rfl (by kernel_rfl) rfl ?_ ?_
  ·
    repeat (first | with_reducible refine r_then_panic ?_ | with_reducible refine r_in_panic ?_ | with_reducible refine r_sc_panic ?_)
    exact d_panv answer_ans (Rd.two rfl (RdI.cellW Tryd.underlying29 rfl inf29 rfl rfl) (RdI.cell1 Tryd.underlying30 rfl rfl rfl)) (by rw [aheadB, ansD_n (chkD_2 hg (okF2 h2)) (by decide)]; try rfl) SelMC.sel SubRC.sub
  ·
    refine f_q rfl ?_
    refine f_q rfl ?_
    refine f_q rfl ?_
    refine f_q rfl ?_
    refine f_q rfl ?_
    refine f_q rfl ?_
    refine f_q rfl ?_
    refine f_q rfl ?_
    exact f_dead
set_option maxHeartbeats 4000000 in
theorem ahead16_ok (who d : Int) (hl1 : D.dues.length ≤ 40) (hl2 : D.paid.length ≤ 40) (hg : GoodD D) (h1 : isW D who = true) (h2 : isDy d = true) : FnV Tryd.prog 16 [valD D uo po uc pc, i64 who, i64 d] [rowD uo 5 encD D.dues, rowD po 4 encP D.paid, rowD (some ⟨0, 0, none⟩) 1 encE ([0, 1] : List Nat)] (.tuple #[vS (aheadB D who d).1, i64 (aheadB D who d).2]) := by
  obtain ⟨dn, rfl⟩ : ∃ n : Nat, d = n := ⟨d.toNat, by have := of_decide_eq_true h2; omega⟩
  have hd := of_decide_eq_true h2
  have hq1 := hg.np
  have hwr : IntKind.i64.wrap (D.people - 1) = D.people - 1 := IntWalk.i64_in _ (by omega)
  have hwh := of_decide_eq_true h1
  have hdn : dn ≤ 30 := by omega
  have hwb : -1000 ≤ who ∧ who ≤ 1000 := by omega
  refine FnV.introD Tryd.call16 Tryd.func16 rfl Tryd.ntmps16 rfl ?_
  intro W M Rf
  refine r_seq ?_
  refine r_region ?_
  refine o_boxA rfl rfl rfl rfl rfl (fun b3 => ?_)
  refine o_alloc rfl inf29 rfl rfl rfl rfl rfl (fun b6 => ?_)
  refine o_alloc rfl inf30 rfl rfl rfl rfl rfl (fun b7 => ?_)
  refine o_nil ?_
  repeat (first | with_reducible refine r_then ?_ | with_reducible refine r_in_normal ?_ | with_reducible refine r_sc_normal ?_)
  refine r_seq ?_
  refine r_region ?_
  refine o_defer rfl rfl rfl rfl ?_
  refine o_nil ?_
  repeat (first | with_reducible refine r_then ?_ | with_reducible refine r_in_normal ?_ | with_reducible refine r_sc_normal ?_)
  refine r_seq ?_
  refine r_parY (fun _ => True) (fun _ _ _ _ => trivial) [14] 17 (by kernel_rfl) (by kernel_rfl) (by kernel_rfl) (by kernel_rfl) (by kernel_rfl) mixed (by kernel_rfl) (by rfl) ?_
  first | refine p_q _ rfl rfl rfl (fun _ _ => v_ldW rfl Tryd.underlying25 rfl inf25 rfl rfl) ?_ | refine p_q _ rfl rfl rfl (fun _ _ => v_lfW rfl Tryd.underlying25 rfl inf25 rfl rfl) ?_ | refine p_q _ rfl rfl rfl (fun _ _ => v_lfN rfl Tryd.underlying25 rfl inf25 rfl rfl rfl) ?_ | refine p_q _ rfl rfl rfl (fun _ _ => v_ldN rfl Tryd.underlying25 rfl inf25 rfl rfl rfl) ?_ | refine p_q _ rfl rfl rfl (fun _ _ => v_loadEN rfl Tryd.underlying25 rfl inf25 rfl (by omega) rfl rfl rfl) ?_
  first | refine p_q _ rfl rfl rfl (fun _ _ => v_ldW rfl Tryd.underlying25 rfl inf25 rfl rfl) ?_ | refine p_q _ rfl rfl rfl (fun _ _ => v_lfW rfl Tryd.underlying25 rfl inf25 rfl rfl) ?_ | refine p_q _ rfl rfl rfl (fun _ _ => v_lfN rfl Tryd.underlying25 rfl inf25 rfl rfl rfl) ?_ | refine p_q _ rfl rfl rfl (fun _ _ => v_ldN rfl Tryd.underlying25 rfl inf25 rfl rfl rfl) ?_ | refine p_q _ rfl rfl rfl (fun _ _ => v_loadEN rfl Tryd.underlying25 rfl inf25 rfl (by omega) rfl rfl rfl) ?_
  refine p_q _ rfl rfl rfl (fun _ _ => v_move rfl rfl) ?_
  refine p_q _ rfl rfl rfl (fun _ _ => v_cast (v := .bool true) (OpQ.fn (isWho_v D uo po uc pc who) rfl rfl SubRC.sub) (congrArg Value.bool h1)) ?_
  refine p_q _ rfl rfl rfl (fun _ _ => v_move rfl rfl) ?_
  first | refine p_gn rfl rfl rfl rfl ?_ | refine p_g _ rfl rfl rfl rfl (fun _ _ => v_move rfl rfl) ?_
  first | refine p_gn rfl rfl rfl rfl ?_ | refine p_g _ rfl rfl rfl rfl (fun _ _ => v_cast (v := .bool true) (OpQ.fn (isDay_v _) rfl rfl SubRC.sub) (congrArg Value.bool h2)) ?_
  first | refine p_q _ rfl rfl rfl (fun _ _ => v_pick_t rfl rfl rfl) ?_ | refine p_q _ rfl rfl rfl (fun _ _ => v_pick_f rfl rfl rfl) ?_
  refine p_openL 11 (look_ok D uo po uc pc hl1 hl2 hg) rfl rfl rfl rfl rfl SubRC.sub ?_
  refine p_q _ rfl rfl rfl (fun _ _ => v_move rfl rfl) ?_
  refine p_q _ rfl rfl rfl (fun _ _ => v_move rfl rfl) ?_
  refine p_acc (by simp only [List.nil_append, List.cons_append]; rfl) ?_
  refine p_takeG 8 (led_both D uo po uc pc who dn hg hwb hdn) rfl rfl rfl (fun b => rfl) rfl (by kernel_rfl) rfl rfl rfl SubRC.sub ?_
  refine p_acc (by simp only [List.nil_append, List.cons_append]; rfl) ?_
  refine p_depU (pv := isAA (progA D 0 who (dn + 1)) (progA D 1 who (dn + 1))) (fc := facAA (progA D 0 who (dn + 1)) (progA D 1 who (dn + 1))) 11 (fun u => u) rfl rfl rfl rfl (by kernel_rfl) rfl rfl rfl (fun u h => ⟨h, fun _ h => h⟩) (fun u _ _ _ => v_move rfl rfl) ?_
  refine p_acc (by simp only [List.nil_append, List.cons_append]; rfl) ?_
  refine p_depU (pv := isA (progA D 0 who (dn + 1))) (fc := facA (progA D 0 who (dn + 1))) 12 (fstT) rfl rfl rfl rfl (by kernel_rfl) rfl rfl rfl (fun u h => depF h) (fun u h _ _ => depX h rfl rfl) ?_
  refine p_acc (by simp only [List.nil_append, List.cons_append]; rfl) ?_
  refine p_depU (pv := isA (progA D 1 who (dn + 1))) (fc := facA (progA D 1 who (dn + 1))) 12 (sndT) rfl rfl rfl rfl (by kernel_rfl) rfl rfl rfl (fun u h => depS h) (fun u h _ _ => depY h rfl rfl) ?_
  refine p_alloc rfl inf77 rfl rfl rfl rfl rfl ?_
  refine p_alloc rfl inf77 rfl rfl rfl rfl rfl ?_
  refine p_nilF (by simp only [List.nil_append, List.cons_append]; rfl) rfl ⟨⟨_, _, _, rfl, rfl, rfl, rfl, rfl, rfl, rfl, fun _ => rfl, .inr ⟨rfl, 12, _, _, sndT, rfl, rfl, rfl, (by kernel_rfl), rfl, fun u h => ⟨(depS h).1, (depS h).2, floatS h rfl rfl⟩⟩⟩, trivial⟩ ?_ (by kernel_rfl)
  refine f_q rfl ?_
  refine f_q rfl ?_
  refine f_q rfl ?_
  refine f_q rfl ?_
  refine f_q rfl ?_
  refine f_q rfl ?_
  refine f_q rfl ?_
  refine f_q rfl ?_
  refine f_openL rfl (fun b19 => ?_)
  refine f_q rfl ?_
  refine f_q rfl ?_
  refine f_takeG rfl (fun v22 hv22 => ?_)
  refine f_gf rfl (fun v12 hv12 => ?_)
  refine f_gf rfl (fun v13 hv13 => ?_)
  refine f_gf rfl (fun v14 hv14 => ?_)
  refine f_alloc rfl (fun b8 => ?_)
  refine f_alloc rfl (fun b9 => ?_)
  refine f_nil ?_
  obtain ⟨oa, ca, rfl⟩ := hv13
  obtain ⟨ob, cb, rfl⟩ := hv14
  refine Imp.derive (ψ := rowD ob 4 encO (progA D 1 who (dn + 1)).1) ?_ (fun V hV => hV _ (List.mem_append_left _ (List.mem_singleton.2 rfl)))
  refine Imp.derive (ψ := rowD oa 4 encO (progA D 0 who (dn + 1)).1) ?_ (fun V hV => hV _ (List.mem_cons_of_mem _ (List.mem_append_right _ (List.mem_append_left _ (List.mem_singleton.2 rfl)))))
  refine oz_lift (fun _ _ => trivial) ?_
  refine o_st rfl inf77 rfl rfl rfl rfl rfl rfl rfl rfl ?_
  refine o_nil ?_
  refine r_then ?_
  refine oz_lift (fun _ _ => trivial) ?_
  refine o_st rfl inf77 rfl rfl rfl rfl rfl rfl rfl rfl ?_
  refine o_nil ?_
  refine r_then ?_
  refine oz_nil (fun _ _ => trivial) ?_
  refine r_nop ?_
  repeat (first | with_reducible refine r_then ?_ | with_reducible refine r_in_normal ?_ | with_reducible refine r_sc_normal ?_)
  refine r_seq ?_
  refine Imp.box_to b8 [.slice oa (progA D 0 who (dn + 1)).1.length ca, i64 (progA D 0 who (dn + 1)).2] rfl ?_
  refine Imp.box_to b9 [.slice ob (progA D 1 who (dn + 1)).1.length cb, i64 (progA D 1 who (dn + 1)).2] rfl ?_
  refine r_region ?_
  first | refine o_q _ rfl rfl rfl (v_fieldAddr rfl Tryd.underlying77 inf75 rfl rfl rfl rfl) ?_ | refine o_q _ rfl rfl rfl (v_fieldAddrE rfl Tryd.underlying77 inf75 rfl rfl rfl rfl) ?_
  first | refine o_q _ rfl rfl rfl (v_ld1 rfl Tryd.underlying75 rfl rfl rfl) ?_ | refine o_q _ rfl rfl rfl (v_lf1 rfl Tryd.underlying75 rfl rfl rfl) ?_ | refine o_q _ rfl rfl rfl (v_loadE1 rfl Tryd.underlying75 rfl rfl (by omega) rfl rfl) ?_
  first | refine o_q _ rfl rfl rfl (v_fieldAddr rfl Tryd.underlying77 inf75 rfl rfl rfl rfl) ?_ | refine o_q _ rfl rfl rfl (v_fieldAddrE rfl Tryd.underlying77 inf75 rfl rfl rfl rfl) ?_
  first | refine o_q _ rfl rfl rfl (v_ld1 rfl Tryd.underlying75 rfl rfl rfl) ?_ | refine o_q _ rfl rfl rfl (v_lf1 rfl Tryd.underlying75 rfl rfl rfl) ?_ | refine o_q _ rfl rfl rfl (v_loadE1 rfl Tryd.underlying75 rfl rfl (by omega) rfl rfl) ?_
  refine o_q _ rfl rfl rfl (v_bS rfl Tryd.underlying29 inf29 plt29 rfl rfl rfl (by repeat (first | exact trivial | refine ⟨rfl, ?_⟩)) (by rfl)) ?_
  refine o_st rfl inf29 rfl rfl rfl rfl rfl rfl rfl rfl ?_
  refine o_st rfl inf30 rfl rfl rfl rfl rfl rfl rfl rfl ?_
  refine o_nil ?_
  repeat (first | with_reducible refine r_then ?_ | with_reducible refine r_in_normal ?_ | with_reducible refine r_sc_normal ?_)
  refine r_ret ?_
  repeat (first | with_reducible refine r_then_ret ?_ | with_reducible refine r_in_ret ?_ | with_reducible refine r_sc_ret ?_)
  exact d_retv answer_ans (Rd.two rfl (RdI.cellW Tryd.underlying29 rfl inf29 rfl rfl) (RdI.cell1 Tryd.underlying30 rfl rfl rfl)) (by rw [aheadB, ansD_0 (chkD_0 hg (okT h1 h2)), Int.toNat_natCast]; try rfl) SelMC.sel SubRC.sub
theorem ahead16_v (who d : Int) (hl1 : D.dues.length ≤ 40) (hl2 : D.paid.length ≤ 40) : FnV Tryd.prog 16 [valD D uo po uc pc, i64 who, i64 d] [rowD uo 5 encD D.dues, rowD po 4 encP D.paid, rowD (some ⟨0, 0, none⟩) 1 encE ([0, 1] : List Nat)] (.tuple #[vS (aheadB D who d).1, i64 (aheadB D who d).2]) := by
  by_cases hg : GoodD D
  · cases h1 : isW D who
    · exact ahead16_x2a D uo po uc pc who d hl1 hl2 hg h1
    · cases h2 : isDy d
      · exact ahead16_x2b D uo po uc pc who d hl1 hl2 hg h1 h2
      · exact ahead16_ok D uo po uc pc who d hl1 hl2 hg h1 h2
  · cases h1 : isW D who
    · exact ahead16_x1a D uo po uc pc who d hl1 hl2 hg h1
    · exact ahead16_x1b D uo po uc pc who d hl1 hl2 hg h1
set_option maxHeartbeats 4000000 in
theorem open20_x1a (who d : Int) (hl1 : D.dues.length ≤ 40) (hl2 : D.paid.length ≤ 40) (hng : ¬ GoodD D) (h1 : isW D who = false) : FnV Tryd.prog 20 [valD D uo po uc pc, i64 who, i64 d] [rowD uo 5 encD D.dues, rowD po 4 encP D.paid, rowD (some ⟨0, 0, none⟩) 1 encE ([0, 1] : List Nat)] (.tuple #[i64 ((openB D who d).1.1 : Nat), i64 ((openB D who d).1.2 : Nat), i64 (openB D who d).2]) := by
  refine FnV.introD Tryd.call20 Tryd.func20 rfl Tryd.ntmps20 rfl ?_
  intro W M Rf
  refine r_seq ?_
  refine r_region ?_
  refine o_boxA rfl rfl rfl rfl rfl (fun b3 => ?_)
  refine o_q _ rfl rfl rfl (v_assign rfl rfl) ?_
  refine o_q _ rfl rfl rfl (v_assign rfl rfl) ?_
  refine o_alloc rfl inf30 rfl rfl rfl rfl rfl (fun b8 => ?_)
  refine o_nil ?_
  repeat (first | with_reducible refine r_then ?_ | with_reducible refine r_in_normal ?_ | with_reducible refine r_sc_normal ?_)
  refine r_seq ?_
  refine r_region ?_
  refine o_defer rfl rfl rfl rfl ?_
  refine o_nil ?_
  repeat (first | with_reducible refine r_then ?_ | with_reducible refine r_in_normal ?_ | with_reducible refine r_sc_normal ?_)
  refine r_seq ?_
  refine r_parX 19 mixed (by kernel_rfl) (by rfl) ?_
  first | refine p_q _ rfl rfl rfl (fun _ _ => v_ldW rfl Tryd.underlying25 rfl inf25 rfl rfl) ?_ | refine p_q _ rfl rfl rfl (fun _ _ => v_lfW rfl Tryd.underlying25 rfl inf25 rfl rfl) ?_ | refine p_q _ rfl rfl rfl (fun _ _ => v_lfN rfl Tryd.underlying25 rfl inf25 rfl rfl rfl) ?_ | refine p_q _ rfl rfl rfl (fun _ _ => v_ldN rfl Tryd.underlying25 rfl inf25 rfl rfl rfl) ?_ | refine p_q _ rfl rfl rfl (fun _ _ => v_loadEN rfl Tryd.underlying25 rfl inf25 rfl (by omega) rfl rfl rfl) ?_
  first | refine p_q _ rfl rfl rfl (fun _ _ => v_ldW rfl Tryd.underlying25 rfl inf25 rfl rfl) ?_ | refine p_q _ rfl rfl rfl (fun _ _ => v_lfW rfl Tryd.underlying25 rfl inf25 rfl rfl) ?_ | refine p_q _ rfl rfl rfl (fun _ _ => v_lfN rfl Tryd.underlying25 rfl inf25 rfl rfl rfl) ?_ | refine p_q _ rfl rfl rfl (fun _ _ => v_ldN rfl Tryd.underlying25 rfl inf25 rfl rfl rfl) ?_ | refine p_q _ rfl rfl rfl (fun _ _ => v_loadEN rfl Tryd.underlying25 rfl inf25 rfl (by omega) rfl rfl rfl) ?_
  refine p_q _ rfl rfl rfl (fun _ _ => v_move rfl rfl) ?_
  refine p_q _ rfl rfl rfl (fun _ _ => v_cast (v := .bool false) (OpQ.fn (isWho_v D uo po uc pc who) rfl rfl SubRC.sub) (congrArg Value.bool h1)) ?_
  refine p_q _ rfl rfl rfl (fun _ _ => v_move rfl rfl) ?_
  first | refine p_gn rfl rfl rfl rfl ?_ | refine p_g _ rfl rfl rfl rfl (fun _ _ => v_move rfl rfl) ?_
  first | refine p_gn rfl rfl rfl rfl ?_ | refine p_g _ rfl rfl rfl rfl (fun _ _ => OpQ.fn (isDay_v d) rfl rfl SubRC.sub) ?_
  first | refine p_q _ rfl rfl rfl (fun _ _ => v_pick_t rfl rfl rfl) ?_ | refine p_q _ rfl rfl rfl (fun _ _ => v_pick_f rfl rfl rfl) ?_
  refine p_deadX (look_x1 D uo po uc pc _ hl1 hl2 hng) rfl rfl rfl rfl rfl SubRC.sub ?_
  refine p_q _ rfl rfl rfl (fun _ _ => v_move rfl rfl) ?_
  refine p_q _ rfl rfl rfl (fun _ _ => v_move rfl rfl) ?_
  refine p_acc (by simp only [List.nil_append, List.cons_append]; rfl) ?_
  refine p_dead 8 rfl rfl rfl (fun _ h => h) (by kernel_rfl) rfl rfl rfl ?_
  refine p_acc (by simp only [List.nil_append, List.cons_append]; rfl) ?_
  refine p_dead 11 rfl rfl rfl (fun _ h => h) (by kernel_rfl) rfl rfl rfl ?_
  refine p_acc (by simp only [List.nil_append, List.cons_append]; rfl) ?_
  refine p_dead 12 rfl rfl rfl (fun _ h => h) (by kernel_rfl) rfl rfl rfl ?_
  refine p_acc (by simp only [List.nil_append, List.cons_append]; rfl) ?_
  refine p_dead 12 rfl rfl rfl (fun _ h => h) (by kernel_rfl) rfl rfl rfl ?_
  refine p_alloc rfl inf77 rfl rfl rfl rfl rfl ?_
  refine p_alloc rfl inf77 rfl rfl rfl rfl rfl ?_
  refine p_acc (by simp only [List.nil_append, List.cons_append]; rfl) ?_
  refine p_deadS 13 rfl rfl rfl (fun _ h => h) (by kernel_rfl) rfl rfl ?_
  refine p_acc (by simp only [List.nil_append, List.cons_append]; rfl) ?_
  refine p_deadS 14 rfl rfl rfl (fun _ h => h) (by kernel_rfl) rfl rfl ?_
  refine p_nilX (panOf (.iface 103 (i64 1))) (by simp only [List.nil_append, List.cons_append]; rfl) rfl (by kernel_rfl) rfl ?_ ?_
  ·
    repeat (first | with_reducible refine r_then_panic ?_ | with_reducible refine r_in_panic ?_ | with_reducible refine r_sc_panic ?_)
    exact d_panv answer_ans (Rd.three rfl (RdI.tmp rfl) (RdI.tmp rfl) (RdI.cell1 Tryd.underlying30 rfl rfl rfl)) (by rw [openB, ansD_n (chkD_1 hng) (by decide)]; try rfl) SelMC.sel SubRC.sub
  ·
    refine f_q rfl ?_
    refine f_q rfl ?_
    refine f_q rfl ?_
    refine f_q rfl ?_
    refine f_q rfl ?_
    refine f_q rfl ?_
    refine f_q rfl ?_
    refine f_q rfl ?_
    exact f_dead
set_option maxHeartbeats 4000000 in
theorem open20_x1b (who d : Int) (hl1 : D.dues.length ≤ 40) (hl2 : D.paid.length ≤ 40) (hng : ¬ GoodD D) (h1 : isW D who = true) : FnV Tryd.prog 20 [valD D uo po uc pc, i64 who, i64 d] [rowD uo 5 encD D.dues, rowD po 4 encP D.paid, rowD (some ⟨0, 0, none⟩) 1 encE ([0, 1] : List Nat)] (.tuple #[i64 ((openB D who d).1.1 : Nat), i64 ((openB D who d).1.2 : Nat), i64 (openB D who d).2]) := by
  refine FnV.introD Tryd.call20 Tryd.func20 rfl Tryd.ntmps20 rfl ?_
  intro W M Rf
  refine r_seq ?_
  refine r_region ?_
  refine o_boxA rfl rfl rfl rfl rfl (fun b3 => ?_)
  refine o_q _ rfl rfl rfl (v_assign rfl rfl) ?_
  refine o_q _ rfl rfl rfl (v_assign rfl rfl) ?_
  refine o_alloc rfl inf30 rfl rfl rfl rfl rfl (fun b8 => ?_)
  refine o_nil ?_
  repeat (first | with_reducible refine r_then ?_ | with_reducible refine r_in_normal ?_ | with_reducible refine r_sc_normal ?_)
  refine r_seq ?_
  refine r_region ?_
  refine o_defer rfl rfl rfl rfl ?_
  refine o_nil ?_
  repeat (first | with_reducible refine r_then ?_ | with_reducible refine r_in_normal ?_ | with_reducible refine r_sc_normal ?_)
  refine r_seq ?_
  refine r_parX 19 mixed (by kernel_rfl) (by rfl) ?_
  first | refine p_q _ rfl rfl rfl (fun _ _ => v_ldW rfl Tryd.underlying25 rfl inf25 rfl rfl) ?_ | refine p_q _ rfl rfl rfl (fun _ _ => v_lfW rfl Tryd.underlying25 rfl inf25 rfl rfl) ?_ | refine p_q _ rfl rfl rfl (fun _ _ => v_lfN rfl Tryd.underlying25 rfl inf25 rfl rfl rfl) ?_ | refine p_q _ rfl rfl rfl (fun _ _ => v_ldN rfl Tryd.underlying25 rfl inf25 rfl rfl rfl) ?_ | refine p_q _ rfl rfl rfl (fun _ _ => v_loadEN rfl Tryd.underlying25 rfl inf25 rfl (by omega) rfl rfl rfl) ?_
  first | refine p_q _ rfl rfl rfl (fun _ _ => v_ldW rfl Tryd.underlying25 rfl inf25 rfl rfl) ?_ | refine p_q _ rfl rfl rfl (fun _ _ => v_lfW rfl Tryd.underlying25 rfl inf25 rfl rfl) ?_ | refine p_q _ rfl rfl rfl (fun _ _ => v_lfN rfl Tryd.underlying25 rfl inf25 rfl rfl rfl) ?_ | refine p_q _ rfl rfl rfl (fun _ _ => v_ldN rfl Tryd.underlying25 rfl inf25 rfl rfl rfl) ?_ | refine p_q _ rfl rfl rfl (fun _ _ => v_loadEN rfl Tryd.underlying25 rfl inf25 rfl (by omega) rfl rfl rfl) ?_
  refine p_q _ rfl rfl rfl (fun _ _ => v_move rfl rfl) ?_
  refine p_q _ rfl rfl rfl (fun _ _ => v_cast (v := .bool true) (OpQ.fn (isWho_v D uo po uc pc who) rfl rfl SubRC.sub) (congrArg Value.bool h1)) ?_
  refine p_q _ rfl rfl rfl (fun _ _ => v_move rfl rfl) ?_
  first | refine p_gn rfl rfl rfl rfl ?_ | refine p_g _ rfl rfl rfl rfl (fun _ _ => v_move rfl rfl) ?_
  first | refine p_gn rfl rfl rfl rfl ?_ | refine p_g _ rfl rfl rfl rfl (fun _ _ => OpQ.fn (isDay_v d) rfl rfl SubRC.sub) ?_
  first | refine p_q _ rfl rfl rfl (fun _ _ => v_pick_t rfl rfl rfl) ?_ | refine p_q _ rfl rfl rfl (fun _ _ => v_pick_f rfl rfl rfl) ?_
  refine p_deadX (look_x1 D uo po uc pc _ hl1 hl2 hng) rfl rfl rfl rfl rfl SubRC.sub ?_
  refine p_q _ rfl rfl rfl (fun _ _ => v_move rfl rfl) ?_
  refine p_q _ rfl rfl rfl (fun _ _ => v_move rfl rfl) ?_
  refine p_acc (by simp only [List.nil_append, List.cons_append]; rfl) ?_
  refine p_dead 8 rfl rfl rfl (fun _ h => h) (by kernel_rfl) rfl rfl rfl ?_
  refine p_acc (by simp only [List.nil_append, List.cons_append]; rfl) ?_
  refine p_dead 11 rfl rfl rfl (fun _ h => h) (by kernel_rfl) rfl rfl rfl ?_
  refine p_acc (by simp only [List.nil_append, List.cons_append]; rfl) ?_
  refine p_dead 12 rfl rfl rfl (fun _ h => h) (by kernel_rfl) rfl rfl rfl ?_
  refine p_acc (by simp only [List.nil_append, List.cons_append]; rfl) ?_
  refine p_dead 12 rfl rfl rfl (fun _ h => h) (by kernel_rfl) rfl rfl rfl ?_
  refine p_alloc rfl inf77 rfl rfl rfl rfl rfl ?_
  refine p_alloc rfl inf77 rfl rfl rfl rfl rfl ?_
  refine p_acc (by simp only [List.nil_append, List.cons_append]; rfl) ?_
  refine p_deadS 13 rfl rfl rfl (fun _ h => h) (by kernel_rfl) rfl rfl ?_
  refine p_acc (by simp only [List.nil_append, List.cons_append]; rfl) ?_
  refine p_deadS 14 rfl rfl rfl (fun _ h => h) (by kernel_rfl) rfl rfl ?_
  refine p_nilX (panOf (.iface 103 (i64 1))) (by simp only [List.nil_append, List.cons_append]; rfl) rfl (by kernel_rfl) rfl ?_ ?_
  ·
    repeat (first | with_reducible refine r_then_panic ?_ | with_reducible refine r_in_panic ?_ | with_reducible refine r_sc_panic ?_)
    exact d_panv answer_ans (Rd.three rfl (RdI.tmp rfl) (RdI.tmp rfl) (RdI.cell1 Tryd.underlying30 rfl rfl rfl)) (by rw [openB, ansD_n (chkD_1 hng) (by decide)]; try rfl) SelMC.sel SubRC.sub
  ·
    refine f_q rfl ?_
    refine f_q rfl ?_
    refine f_q rfl ?_
    refine f_q rfl ?_
    refine f_q rfl ?_
    refine f_q rfl ?_
    refine f_q rfl ?_
    refine f_q rfl ?_
    exact f_dead
set_option maxHeartbeats 4000000 in
theorem open20_x2a (who d : Int) (hl1 : D.dues.length ≤ 40) (hl2 : D.paid.length ≤ 40) (hg : GoodD D) (h1 : isW D who = false) : FnV Tryd.prog 20 [valD D uo po uc pc, i64 who, i64 d] [rowD uo 5 encD D.dues, rowD po 4 encP D.paid, rowD (some ⟨0, 0, none⟩) 1 encE ([0, 1] : List Nat)] (.tuple #[i64 ((openB D who d).1.1 : Nat), i64 ((openB D who d).1.2 : Nat), i64 (openB D who d).2]) := by
  refine FnV.introD Tryd.call20 Tryd.func20 rfl Tryd.ntmps20 rfl ?_
  intro W M Rf
  refine r_seq ?_
  refine r_region ?_
  refine o_boxA rfl rfl rfl rfl rfl (fun b3 => ?_)
  refine o_q _ rfl rfl rfl (v_assign rfl rfl) ?_
  refine o_q _ rfl rfl rfl (v_assign rfl rfl) ?_
  refine o_alloc rfl inf30 rfl rfl rfl rfl rfl (fun b8 => ?_)
  refine o_nil ?_
  repeat (first | with_reducible refine r_then ?_ | with_reducible refine r_in_normal ?_ | with_reducible refine r_sc_normal ?_)
  refine r_seq ?_
  refine r_region ?_
  refine o_defer rfl rfl rfl rfl ?_
  refine o_nil ?_
  repeat (first | with_reducible refine r_then ?_ | with_reducible refine r_in_normal ?_ | with_reducible refine r_sc_normal ?_)
  refine r_seq ?_
  refine r_parX 19 mixed (by kernel_rfl) (by rfl) ?_
  first | refine p_q _ rfl rfl rfl (fun _ _ => v_ldW rfl Tryd.underlying25 rfl inf25 rfl rfl) ?_ | refine p_q _ rfl rfl rfl (fun _ _ => v_lfW rfl Tryd.underlying25 rfl inf25 rfl rfl) ?_ | refine p_q _ rfl rfl rfl (fun _ _ => v_lfN rfl Tryd.underlying25 rfl inf25 rfl rfl rfl) ?_ | refine p_q _ rfl rfl rfl (fun _ _ => v_ldN rfl Tryd.underlying25 rfl inf25 rfl rfl rfl) ?_ | refine p_q _ rfl rfl rfl (fun _ _ => v_loadEN rfl Tryd.underlying25 rfl inf25 rfl (by omega) rfl rfl rfl) ?_
  first | refine p_q _ rfl rfl rfl (fun _ _ => v_ldW rfl Tryd.underlying25 rfl inf25 rfl rfl) ?_ | refine p_q _ rfl rfl rfl (fun _ _ => v_lfW rfl Tryd.underlying25 rfl inf25 rfl rfl) ?_ | refine p_q _ rfl rfl rfl (fun _ _ => v_lfN rfl Tryd.underlying25 rfl inf25 rfl rfl rfl) ?_ | refine p_q _ rfl rfl rfl (fun _ _ => v_ldN rfl Tryd.underlying25 rfl inf25 rfl rfl rfl) ?_ | refine p_q _ rfl rfl rfl (fun _ _ => v_loadEN rfl Tryd.underlying25 rfl inf25 rfl (by omega) rfl rfl rfl) ?_
  refine p_q _ rfl rfl rfl (fun _ _ => v_move rfl rfl) ?_
  refine p_q _ rfl rfl rfl (fun _ _ => v_cast (v := .bool false) (OpQ.fn (isWho_v D uo po uc pc who) rfl rfl SubRC.sub) (congrArg Value.bool h1)) ?_
  refine p_q _ rfl rfl rfl (fun _ _ => v_move rfl rfl) ?_
  first | refine p_gn rfl rfl rfl rfl ?_ | refine p_g _ rfl rfl rfl rfl (fun _ _ => v_move rfl rfl) ?_
  first | refine p_gn rfl rfl rfl rfl ?_ | refine p_g _ rfl rfl rfl rfl (fun _ _ => OpQ.fn (isDay_v d) rfl rfl SubRC.sub) ?_
  first | refine p_q _ rfl rfl rfl (fun _ _ => v_pick_t rfl rfl rfl) ?_ | refine p_q _ rfl rfl rfl (fun _ _ => v_pick_f rfl rfl rfl) ?_
  refine p_deadX (look_x2 D uo po uc pc hl1 hl2 hg) rfl rfl rfl rfl rfl SubRC.sub ?_
  refine p_q _ rfl rfl rfl (fun _ _ => v_move rfl rfl) ?_
  refine p_q _ rfl rfl rfl (fun _ _ => v_move rfl rfl) ?_
  refine p_acc (by simp only [List.nil_append, List.cons_append]; rfl) ?_
  refine p_dead 8 rfl rfl rfl (fun _ h => h) (by kernel_rfl) rfl rfl rfl ?_
  refine p_acc (by simp only [List.nil_append, List.cons_append]; rfl) ?_
  refine p_dead 11 rfl rfl rfl (fun _ h => h) (by kernel_rfl) rfl rfl rfl ?_
  refine p_acc (by simp only [List.nil_append, List.cons_append]; rfl) ?_
  refine p_dead 12 rfl rfl rfl (fun _ h => h) (by kernel_rfl) rfl rfl rfl ?_
  refine p_acc (by simp only [List.nil_append, List.cons_append]; rfl) ?_
  refine p_dead 12 rfl rfl rfl (fun _ h => h) (by kernel_rfl) rfl rfl rfl ?_
  refine p_alloc rfl inf77 rfl rfl rfl rfl rfl ?_
  refine p_alloc rfl inf77 rfl rfl rfl rfl rfl ?_
  refine p_acc (by simp only [List.nil_append, List.cons_append]; rfl) ?_
  refine p_deadS 13 rfl rfl rfl (fun _ h => h) (by kernel_rfl) rfl rfl ?_
  refine p_acc (by simp only [List.nil_append, List.cons_append]; rfl) ?_
  refine p_deadS 14 rfl rfl rfl (fun _ h => h) (by kernel_rfl) rfl rfl ?_
  refine p_nilX (panOf (.iface 103 (i64 2))) (by simp only [List.nil_append, List.cons_append]; rfl) rfl (by kernel_rfl) rfl ?_ ?_
  ·
    repeat (first | with_reducible refine r_then_panic ?_ | with_reducible refine r_in_panic ?_ | with_reducible refine r_sc_panic ?_)
    exact d_panv answer_ans (Rd.three rfl (RdI.tmp rfl) (RdI.tmp rfl) (RdI.cell1 Tryd.underlying30 rfl rfl rfl)) (by rw [openB, ansD_n (chkD_2 hg (okF1 h1)) (by decide)]; try rfl) SelMC.sel SubRC.sub
  ·
    refine f_q rfl ?_
    refine f_q rfl ?_
    refine f_q rfl ?_
    refine f_q rfl ?_
    refine f_q rfl ?_
    refine f_q rfl ?_
    refine f_q rfl ?_
    refine f_q rfl ?_
    exact f_dead
set_option maxHeartbeats 4000000 in
theorem open20_x2b (who d : Int) (hl1 : D.dues.length ≤ 40) (hl2 : D.paid.length ≤ 40) (hg : GoodD D) (h1 : isW D who = true) (h2 : isDy d = false) : FnV Tryd.prog 20 [valD D uo po uc pc, i64 who, i64 d] [rowD uo 5 encD D.dues, rowD po 4 encP D.paid, rowD (some ⟨0, 0, none⟩) 1 encE ([0, 1] : List Nat)] (.tuple #[i64 ((openB D who d).1.1 : Nat), i64 ((openB D who d).1.2 : Nat), i64 (openB D who d).2]) := by
  refine FnV.introD Tryd.call20 Tryd.func20 rfl Tryd.ntmps20 rfl ?_
  intro W M Rf
  refine r_seq ?_
  refine r_region ?_
  refine o_boxA rfl rfl rfl rfl rfl (fun b3 => ?_)
  refine o_q _ rfl rfl rfl (v_assign rfl rfl) ?_
  refine o_q _ rfl rfl rfl (v_assign rfl rfl) ?_
  refine o_alloc rfl inf30 rfl rfl rfl rfl rfl (fun b8 => ?_)
  refine o_nil ?_
  repeat (first | with_reducible refine r_then ?_ | with_reducible refine r_in_normal ?_ | with_reducible refine r_sc_normal ?_)
  refine r_seq ?_
  refine r_region ?_
  refine o_defer rfl rfl rfl rfl ?_
  refine o_nil ?_
  repeat (first | with_reducible refine r_then ?_ | with_reducible refine r_in_normal ?_ | with_reducible refine r_sc_normal ?_)
  refine r_seq ?_
  refine r_parX 19 mixed (by kernel_rfl) (by rfl) ?_
  first | refine p_q _ rfl rfl rfl (fun _ _ => v_ldW rfl Tryd.underlying25 rfl inf25 rfl rfl) ?_ | refine p_q _ rfl rfl rfl (fun _ _ => v_lfW rfl Tryd.underlying25 rfl inf25 rfl rfl) ?_ | refine p_q _ rfl rfl rfl (fun _ _ => v_lfN rfl Tryd.underlying25 rfl inf25 rfl rfl rfl) ?_ | refine p_q _ rfl rfl rfl (fun _ _ => v_ldN rfl Tryd.underlying25 rfl inf25 rfl rfl rfl) ?_ | refine p_q _ rfl rfl rfl (fun _ _ => v_loadEN rfl Tryd.underlying25 rfl inf25 rfl (by omega) rfl rfl rfl) ?_
  first | refine p_q _ rfl rfl rfl (fun _ _ => v_ldW rfl Tryd.underlying25 rfl inf25 rfl rfl) ?_ | refine p_q _ rfl rfl rfl (fun _ _ => v_lfW rfl Tryd.underlying25 rfl inf25 rfl rfl) ?_ | refine p_q _ rfl rfl rfl (fun _ _ => v_lfN rfl Tryd.underlying25 rfl inf25 rfl rfl rfl) ?_ | refine p_q _ rfl rfl rfl (fun _ _ => v_ldN rfl Tryd.underlying25 rfl inf25 rfl rfl rfl) ?_ | refine p_q _ rfl rfl rfl (fun _ _ => v_loadEN rfl Tryd.underlying25 rfl inf25 rfl (by omega) rfl rfl rfl) ?_
  refine p_q _ rfl rfl rfl (fun _ _ => v_move rfl rfl) ?_
  refine p_q _ rfl rfl rfl (fun _ _ => v_cast (v := .bool true) (OpQ.fn (isWho_v D uo po uc pc who) rfl rfl SubRC.sub) (congrArg Value.bool h1)) ?_
  refine p_q _ rfl rfl rfl (fun _ _ => v_move rfl rfl) ?_
  first | refine p_gn rfl rfl rfl rfl ?_ | refine p_g _ rfl rfl rfl rfl (fun _ _ => v_move rfl rfl) ?_
  first | refine p_gn rfl rfl rfl rfl ?_ | refine p_g _ rfl rfl rfl rfl (fun _ _ => v_cast (v := .bool false) (OpQ.fn (isDay_v d) rfl rfl SubRC.sub) (congrArg Value.bool h2)) ?_
  first | refine p_q _ rfl rfl rfl (fun _ _ => v_pick_t rfl rfl rfl) ?_ | refine p_q _ rfl rfl rfl (fun _ _ => v_pick_f rfl rfl rfl) ?_
  refine p_deadX (look_x2 D uo po uc pc hl1 hl2 hg) rfl rfl rfl rfl rfl SubRC.sub ?_
  refine p_q _ rfl rfl rfl (fun _ _ => v_move rfl rfl) ?_
  refine p_q _ rfl rfl rfl (fun _ _ => v_move rfl rfl) ?_
  refine p_acc (by simp only [List.nil_append, List.cons_append]; rfl) ?_
  refine p_dead 8 rfl rfl rfl (fun _ h => h) (by kernel_rfl) rfl rfl rfl ?_
  refine p_acc (by simp only [List.nil_append, List.cons_append]; rfl) ?_
  refine p_dead 11 rfl rfl rfl (fun _ h => h) (by kernel_rfl) rfl rfl rfl ?_
  refine p_acc (by simp only [List.nil_append, List.cons_append]; rfl) ?_
  refine p_dead 12 rfl rfl rfl (fun _ h => h) (by kernel_rfl) rfl rfl rfl ?_
  refine p_acc (by simp only [List.nil_append, List.cons_append]; rfl) ?_
  refine p_dead 12 rfl rfl rfl (fun _ h => h) (by kernel_rfl) rfl rfl rfl ?_
  refine p_alloc rfl inf77 rfl rfl rfl rfl rfl ?_
  refine p_alloc rfl inf77 rfl rfl rfl rfl rfl ?_
  refine p_acc (by simp only [List.nil_append, List.cons_append]; rfl) ?_
  refine p_deadS 13 rfl rfl rfl (fun _ h => h) (by kernel_rfl) rfl rfl ?_
  refine p_acc (by simp only [List.nil_append, List.cons_append]; rfl) ?_
  refine p_deadS 14 rfl rfl rfl (fun _ h => h) (by kernel_rfl) rfl rfl ?_
  refine p_nilX (panOf (.iface 103 (i64 2))) (by simp only [List.nil_append, List.cons_append]; rfl) rfl (by kernel_rfl) rfl ?_ ?_
  ·
    repeat (first | with_reducible refine r_then_panic ?_ | with_reducible refine r_in_panic ?_ | with_reducible refine r_sc_panic ?_)
    exact d_panv answer_ans (Rd.three rfl (RdI.tmp rfl) (RdI.tmp rfl) (RdI.cell1 Tryd.underlying30 rfl rfl rfl)) (by rw [openB, ansD_n (chkD_2 hg (okF2 h2)) (by decide)]; try rfl) SelMC.sel SubRC.sub
  ·
    refine f_q rfl ?_
    refine f_q rfl ?_
    refine f_q rfl ?_
    refine f_q rfl ?_
    refine f_q rfl ?_
    refine f_q rfl ?_
    refine f_q rfl ?_
    refine f_q rfl ?_
    exact f_dead
set_option maxHeartbeats 4000000 in
theorem open20_ok (who d : Int) (hl1 : D.dues.length ≤ 40) (hl2 : D.paid.length ≤ 40) (hg : GoodD D) (h1 : isW D who = true) (h2 : isDy d = true) : FnV Tryd.prog 20 [valD D uo po uc pc, i64 who, i64 d] [rowD uo 5 encD D.dues, rowD po 4 encP D.paid, rowD (some ⟨0, 0, none⟩) 1 encE ([0, 1] : List Nat)] (.tuple #[i64 ((openB D who d).1.1 : Nat), i64 ((openB D who d).1.2 : Nat), i64 (openB D who d).2]) := by
  obtain ⟨dn, rfl⟩ : ∃ n : Nat, d = n := ⟨d.toNat, by have := of_decide_eq_true h2; omega⟩
  have hd := of_decide_eq_true h2
  have hq1 := hg.np
  have hwr : IntKind.i64.wrap (D.people - 1) = D.people - 1 := IntWalk.i64_in _ (by omega)
  have hwh := of_decide_eq_true h1
  have hdn : dn ≤ 30 := by omega
  have hwb : -1000 ≤ who ∧ who ≤ 1000 := by omega
  refine FnV.introD Tryd.call20 Tryd.func20 rfl Tryd.ntmps20 rfl ?_
  intro W M Rf
  refine r_seq ?_
  refine r_region ?_
  refine o_boxA rfl rfl rfl rfl rfl (fun b3 => ?_)
  refine o_q _ rfl rfl rfl (v_assign rfl rfl) ?_
  refine o_q _ rfl rfl rfl (v_assign rfl rfl) ?_
  refine o_alloc rfl inf30 rfl rfl rfl rfl rfl (fun b8 => ?_)
  refine o_nil ?_
  repeat (first | with_reducible refine r_then ?_ | with_reducible refine r_in_normal ?_ | with_reducible refine r_sc_normal ?_)
  refine r_seq ?_
  refine r_region ?_
  refine o_defer rfl rfl rfl rfl ?_
  refine o_nil ?_
  repeat (first | with_reducible refine r_then ?_ | with_reducible refine r_in_normal ?_ | with_reducible refine r_sc_normal ?_)
  refine r_seq ?_
  refine r_parY (fun _ => True) (fun _ _ _ _ => trivial) [14] 17 (by kernel_rfl) (by kernel_rfl) (by kernel_rfl) (by kernel_rfl) (by kernel_rfl) mixed (by kernel_rfl) (by rfl) ?_
  first | refine p_q _ rfl rfl rfl (fun _ _ => v_ldW rfl Tryd.underlying25 rfl inf25 rfl rfl) ?_ | refine p_q _ rfl rfl rfl (fun _ _ => v_lfW rfl Tryd.underlying25 rfl inf25 rfl rfl) ?_ | refine p_q _ rfl rfl rfl (fun _ _ => v_lfN rfl Tryd.underlying25 rfl inf25 rfl rfl rfl) ?_ | refine p_q _ rfl rfl rfl (fun _ _ => v_ldN rfl Tryd.underlying25 rfl inf25 rfl rfl rfl) ?_ | refine p_q _ rfl rfl rfl (fun _ _ => v_loadEN rfl Tryd.underlying25 rfl inf25 rfl (by omega) rfl rfl rfl) ?_
  first | refine p_q _ rfl rfl rfl (fun _ _ => v_ldW rfl Tryd.underlying25 rfl inf25 rfl rfl) ?_ | refine p_q _ rfl rfl rfl (fun _ _ => v_lfW rfl Tryd.underlying25 rfl inf25 rfl rfl) ?_ | refine p_q _ rfl rfl rfl (fun _ _ => v_lfN rfl Tryd.underlying25 rfl inf25 rfl rfl rfl) ?_ | refine p_q _ rfl rfl rfl (fun _ _ => v_ldN rfl Tryd.underlying25 rfl inf25 rfl rfl rfl) ?_ | refine p_q _ rfl rfl rfl (fun _ _ => v_loadEN rfl Tryd.underlying25 rfl inf25 rfl (by omega) rfl rfl rfl) ?_
  refine p_q _ rfl rfl rfl (fun _ _ => v_move rfl rfl) ?_
  refine p_q _ rfl rfl rfl (fun _ _ => v_cast (v := .bool true) (OpQ.fn (isWho_v D uo po uc pc who) rfl rfl SubRC.sub) (congrArg Value.bool h1)) ?_
  refine p_q _ rfl rfl rfl (fun _ _ => v_move rfl rfl) ?_
  first | refine p_gn rfl rfl rfl rfl ?_ | refine p_g _ rfl rfl rfl rfl (fun _ _ => v_move rfl rfl) ?_
  first | refine p_gn rfl rfl rfl rfl ?_ | refine p_g _ rfl rfl rfl rfl (fun _ _ => v_cast (v := .bool true) (OpQ.fn (isDay_v _) rfl rfl SubRC.sub) (congrArg Value.bool h2)) ?_
  first | refine p_q _ rfl rfl rfl (fun _ _ => v_pick_t rfl rfl rfl) ?_ | refine p_q _ rfl rfl rfl (fun _ _ => v_pick_f rfl rfl rfl) ?_
  refine p_openL 11 (look_ok D uo po uc pc hl1 hl2 hg) rfl rfl rfl rfl rfl SubRC.sub ?_
  refine p_q _ rfl rfl rfl (fun _ _ => v_move rfl rfl) ?_
  refine p_q _ rfl rfl rfl (fun _ _ => v_move rfl rfl) ?_
  refine p_acc (by simp only [List.nil_append, List.cons_append]; rfl) ?_
  refine p_takeG 8 (led_both D uo po uc pc who dn hg hwb hdn) rfl rfl rfl (fun b => rfl) rfl (by kernel_rfl) rfl rfl rfl SubRC.sub ?_
  refine p_acc (by simp only [List.nil_append, List.cons_append]; rfl) ?_
  refine p_depU (pv := isAA (progA D 0 who (dn + 1)) (progA D 1 who (dn + 1))) (fc := facAA (progA D 0 who (dn + 1)) (progA D 1 who (dn + 1))) 11 (fun u => u) rfl rfl rfl rfl (by kernel_rfl) rfl rfl rfl (fun u h => ⟨h, fun _ h => h⟩) (fun u _ _ _ => v_move rfl rfl) ?_
  refine p_acc (by simp only [List.nil_append, List.cons_append]; rfl) ?_
  refine p_depU (pv := isA (progA D 0 who (dn + 1))) (fc := facA (progA D 0 who (dn + 1))) 12 (fstT) rfl rfl rfl rfl (by kernel_rfl) rfl rfl rfl (fun u h => depF h) (fun u h _ _ => depX h rfl rfl) ?_
  refine p_acc (by simp only [List.nil_append, List.cons_append]; rfl) ?_
  refine p_depU (pv := isA (progA D 1 who (dn + 1))) (fc := facA (progA D 1 who (dn + 1))) 12 (sndT) rfl rfl rfl rfl (by kernel_rfl) rfl rfl rfl (fun u h => depS h) (fun u h _ _ => depY h rfl rfl) ?_
  refine p_alloc rfl inf77 rfl rfl rfl rfl rfl ?_
  refine p_alloc rfl inf77 rfl rfl rfl rfl rfl ?_
  refine p_nilF (by simp only [List.nil_append, List.cons_append]; rfl) rfl ⟨⟨_, _, _, rfl, rfl, rfl, rfl, rfl, rfl, rfl, fun _ => rfl, .inr ⟨rfl, 12, _, _, sndT, rfl, rfl, rfl, (by kernel_rfl), rfl, fun u h => ⟨(depS h).1, (depS h).2, floatS h rfl rfl⟩⟩⟩, trivial⟩ ?_ (by kernel_rfl)
  refine f_q rfl ?_
  refine f_q rfl ?_
  refine f_q rfl ?_
  refine f_q rfl ?_
  refine f_q rfl ?_
  refine f_q rfl ?_
  refine f_q rfl ?_
  refine f_q rfl ?_
  refine f_openL rfl (fun b20 => ?_)
  refine f_q rfl ?_
  refine f_q rfl ?_
  refine f_takeG rfl (fun v23 hv23 => ?_)
  refine f_gf rfl (fun v12 hv12 => ?_)
  refine f_gf rfl (fun v13 hv13 => ?_)
  refine f_gf rfl (fun v14 hv14 => ?_)
  refine f_alloc rfl (fun b9 => ?_)
  refine f_alloc rfl (fun b10 => ?_)
  refine f_nil ?_
  obtain ⟨oa, ca, rfl⟩ := hv13
  obtain ⟨ob, cb, rfl⟩ := hv14
  refine Imp.derive (ψ := rowD ob 4 encO (progA D 1 who (dn + 1)).1) ?_ (fun V hV => hV _ (List.mem_append_left _ (List.mem_singleton.2 rfl)))
  refine Imp.derive (ψ := rowD oa 4 encO (progA D 0 who (dn + 1)).1) ?_ (fun V hV => hV _ (List.mem_cons_of_mem _ (List.mem_append_right _ (List.mem_append_left _ (List.mem_singleton.2 rfl)))))
  refine oz_lift (fun _ _ => trivial) ?_
  refine o_st rfl inf77 rfl rfl rfl rfl rfl rfl rfl rfl ?_
  refine o_nil ?_
  refine r_then ?_
  refine oz_lift (fun _ _ => trivial) ?_
  refine o_st rfl inf77 rfl rfl rfl rfl rfl rfl rfl rfl ?_
  refine o_nil ?_
  refine r_then ?_
  refine oz_nil (fun _ _ => trivial) ?_
  refine r_nop ?_
  repeat (first | with_reducible refine r_then ?_ | with_reducible refine r_in_normal ?_ | with_reducible refine r_sc_normal ?_)
  refine r_seq ?_
  refine Imp.box_to b9 [.slice oa (progA D 0 who (dn + 1)).1.length ca, i64 (progA D 0 who (dn + 1)).2] rfl ?_
  refine Imp.box_to b10 [.slice ob (progA D 1 who (dn + 1)).1.length cb, i64 (progA D 1 who (dn + 1)).2] rfl ?_
  refine r_par' 3 mixed (by kernel_rfl) (by rfl) ?_
  first | refine p_q _ rfl rfl rfl (fun _ _ => v_ldW rfl Tryd.underlying77 rfl inf77 rfl rfl) ?_ | refine p_q _ rfl rfl rfl (fun _ _ => v_lfW rfl Tryd.underlying77 rfl inf77 rfl rfl) ?_ | refine p_q _ rfl rfl rfl (fun _ _ => v_lfN rfl Tryd.underlying77 rfl inf77 rfl rfl rfl) ?_ | refine p_q _ rfl rfl rfl (fun _ _ => v_ldN rfl Tryd.underlying77 rfl inf77 rfl rfl rfl) ?_ | refine p_q _ rfl rfl rfl (fun _ _ => v_loadEN rfl Tryd.underlying77 rfl inf77 rfl (by omega) rfl rfl rfl) ?_
  refine p_q _ rfl rfl rfl (fun _ _ => OpQ.fn (set_v (progA D 0 who (dn + 1)).1 oa ca (progA D 0 who (dn + 1)).2 (by have := prog_lenA hg 0 who (dn + 1); omega) (fun y hy => ((prog_bd hg 0 who (dn + 1) (by omega)).1 y hy).2.2)) rfl rfl SubRC.sub) ?_
  first | refine p_q _ rfl rfl rfl (fun _ _ => v_ldW rfl Tryd.underlying77 rfl inf77 rfl rfl) ?_ | refine p_q _ rfl rfl rfl (fun _ _ => v_lfW rfl Tryd.underlying77 rfl inf77 rfl rfl) ?_ | refine p_q _ rfl rfl rfl (fun _ _ => v_lfN rfl Tryd.underlying77 rfl inf77 rfl rfl rfl) ?_ | refine p_q _ rfl rfl rfl (fun _ _ => v_ldN rfl Tryd.underlying77 rfl inf77 rfl rfl rfl) ?_ | refine p_q _ rfl rfl rfl (fun _ _ => v_loadEN rfl Tryd.underlying77 rfl inf77 rfl (by omega) rfl rfl rfl) ?_
  refine p_nil2 (by simp only [List.nil_append, List.cons_append]; rfl) rfl ?_
  refine f_q rfl ?_
  refine f_q rfl ?_
  refine f_q rfl ?_
  refine f_nil ?_
  refine o_q _ rfl rfl rfl (OpQ.fn (set_v (progA D 1 who (dn + 1)).1 ob cb (progA D 1 who (dn + 1)).2 (by have := prog_lenA hg 1 who (dn + 1); omega) (fun y hy => ((prog_bd hg 1 who (dn + 1) (by omega)).1 y hy).2.2)) rfl rfl SubRC.sub) ?_
  refine o_q _ rfl rfl rfl (v_assign rfl rfl) ?_
  refine o_q _ rfl rfl rfl (v_assign rfl rfl) ?_
  refine o_st rfl inf30 rfl rfl rfl rfl rfl rfl rfl rfl ?_
  refine o_nil ?_
  repeat (first | with_reducible refine r_then ?_ | with_reducible refine r_in_normal ?_ | with_reducible refine r_sc_normal ?_)
  refine r_ret ?_
  repeat (first | with_reducible refine r_then_ret ?_ | with_reducible refine r_in_ret ?_ | with_reducible refine r_sc_ret ?_)
  exact d_retv answer_ans (Rd.three rfl (RdI.tmp rfl) (RdI.tmp rfl) (RdI.cell1 Tryd.underlying30 rfl rfl rfl)) (by rw [openB, ansD_0 (chkD_0 hg (okT h1 h2)), Int.toNat_natCast]; try rfl) SelMC.sel SubRC.sub
theorem open20_v (who d : Int) (hl1 : D.dues.length ≤ 40) (hl2 : D.paid.length ≤ 40) : FnV Tryd.prog 20 [valD D uo po uc pc, i64 who, i64 d] [rowD uo 5 encD D.dues, rowD po 4 encP D.paid, rowD (some ⟨0, 0, none⟩) 1 encE ([0, 1] : List Nat)] (.tuple #[i64 ((openB D who d).1.1 : Nat), i64 ((openB D who d).1.2 : Nat), i64 (openB D who d).2]) := by
  by_cases hg : GoodD D
  · cases h1 : isW D who
    · exact open20_x2a D uo po uc pc who d hl1 hl2 hg h1
    · cases h2 : isDy d
      · exact open20_x2b D uo po uc pc who d hl1 hl2 hg h1 h2
      · exact open20_ok D uo po uc pc who d hl1 hl2 hg h1 h2
  · cases h1 : isW D who
    · exact open20_x1a D uo po uc pc who d hl1 hl2 hg h1
    · exact open20_x1b D uo po uc pc who d hl1 hl2 hg h1
end Go.Proofs.YtpfgiednfjfdmaaDoor


namespace Go.G
variable {P : Program} {W : World} {n : Nat} {D : List Deferred} {L : Tm} {M : List Res} {R : List Fact} {Q : Exit → Act → World → Prop} {o : Oper} {Z : World → Prop}
/-- The operation, with its waits told anew. -/
def ren (τ : Nat → Nat) (o : Oper) : Oper := { o with after := o.after.map fun e => { e with on := τ e.on }, guard := o.guard.map fun p => (τ p.1, p.2) }
/-- In the order of a list of their numbers. -/
def permL (σ : List Nat) (l : List Oper) : List Oper := σ.map fun i => match l[i]? with | some o => ren (fun j => σ.idxOf j) o | none => { dst := none, op := .move (.tmp 0), type := 0, pos := "", after := #[], guard := none }
def permB (σ : List Nat) (l : List Oper) : Bool := nodupB σ && Nat.beq σ.length l.length && (List.range l.length).all (fun j => Nat.blt (σ.idxOf j) σ.length) && σ.all (fun i => Nat.blt i l.length) &&
  l.all (fun o => o.after.all (fun e => Nat.blt e.on l.length) && match o.guard with | some (g, _) => Nat.blt g l.length | none => true)
structure PermOK (σ : List Nat) (l : List Oper) : Prop where
  len : σ.length = l.length
  at_ : ∀ j, j < l.length → σ.idxOf j < σ.length ∧ σ[σ.idxOf j]? = some j
  inv : ∀ k (i : Nat), σ[k]? = some i → i < l.length ∧ σ.idxOf i = k
  edge : ∀ o ∈ l, ∀ e ∈ o.after, e.on < l.length
  gd : ∀ o ∈ l, ∀ g b, o.guard = some (g, b) → g < l.length
theorem permOK_of {σ : List Nat} {l : List Oper} (h : permB σ l = true) : PermOK σ l := by
  simp only [permB, Bool.and_eq_true] at h
  obtain ⟨⟨⟨⟨h0, h1⟩, h2⟩, h3⟩, h4⟩ := h
  have hlen : σ.length = l.length := by simpa using h1
  have hat : ∀ j, j < l.length → σ.idxOf j < σ.length ∧ σ[σ.idxOf j]? = some j := fun j hj => by
    have := List.all_eq_true.1 h2 j (List.mem_range.2 hj)
    have hlt : σ.idxOf j < σ.length := by simpa using this
    exact ⟨hlt, by rw [List.getElem?_eq_getElem hlt, List.getElem_idxOf hlt]⟩
  have hmem : ∀ i ∈ σ, i < l.length := fun i hi => by simpa using List.all_eq_true.1 h3 i hi
  have hnd : σ.Nodup := nodupB_sound h0
  refine ⟨hlen, hat, fun k i hk => ?_, fun o ho e he => ?_, fun o ho g b hg => ?_⟩
  · have hi := hmem i (List.mem_of_getElem? hk)
    refine ⟨hi, ?_⟩
    obtain ⟨g1, g2⟩ := hat i hi
    have hk2 := List.getElem?_eq_some_iff.1 hk
    have g3 := List.getElem?_eq_some_iff.1 g2
    exact (List.getElem_inj hnd).1 (g3.2.trans hk2.2.symm)
  · have := List.all_eq_true.1 h4 o ho
    simp only [Bool.and_eq_true] at this
    simpa using Array.all_eq_true_iff_forall_mem.1 this.1 e he
  · have := List.all_eq_true.1 h4 o ho
    simp only [Bool.and_eq_true, hg] at this
    simpa using this.2
section
variable {σ : List Nat} {l : List Oper}
theorem permL_at (h : PermOK σ l) {k i : Nat} (hk : σ[k]? = some i) : ∃ o, l[i]? = some o ∧ (permL σ l)[k]? = some (ren (fun j => σ.idxOf j) o) := by
  obtain ⟨hi, _⟩ := h.inv k i hk
  refine ⟨l[i], List.getElem?_eq_getElem hi, ?_⟩
  unfold permL
  rw [List.getElem?_map, hk, Option.map_some, List.getElem?_eq_getElem hi]
theorem permL_len (σ : List Nat) (l : List Oper) : (permL σ l).length = σ.length := by unfold permL; rw [List.length_map]
/-- What has been carried out, told anew. -/
def SameL (σ : List Nat) (listed listed' : Array Bool) : Prop := listed.size = σ.length ∧ listed'.size = σ.length ∧ ∀ k (i : Nat), σ[k]? = some i → ∀ d, listed'.getD k d = listed.getD i d
theorem perm_ready (h : PermOK σ l) {listed listed' : Array Bool} (hs : SameL σ listed listed') {k i : Nat} (hk : σ[k]? = some i) : k ∈ Region.ready .any (permL σ l).toArray listed' ↔ i ∈ Region.ready .any l.toArray listed := by
  obtain ⟨o, ho, hp⟩ := permL_at h hk
  have hom : o ∈ l := List.mem_of_getElem? ho
  have hedge : ∀ e ∈ o.after, listed'.getD (σ.idxOf e.on) false = listed.getD e.on false := fun e he => by
    have := h.edge o hom e he
    exact hs.2.2 _ _ (h.at_ e.on this).2 false
  constructor
  · intro hr
    obtain ⟨h0, o', ho', hall⟩ := mem_ready.1 hr
    have : o' = ren (fun j => σ.idxOf j) o := Option.some.inj (ho'.symm.trans (by simpa using hp))
    subst this
    refine mem_ready.2 ⟨by rw [← hs.2.2 k i hk true]; exact h0, o, by simpa using ho, fun e he hb => ?_⟩
    have := hall { e with on := σ.idxOf e.on } (Array.mem_map.2 ⟨e, he, rfl⟩) hb
    rw [← hedge e he]; exact this
  · intro hr
    obtain ⟨h0, o', ho', hall⟩ := mem_ready.1 hr
    have : o' = o := Option.some.inj (ho'.symm.trans (by simpa using ho))
    subst this
    refine mem_ready.2 ⟨by rw [hs.2.2 k i hk true]; exact h0, _, by simpa using hp, fun e he hb => ?_⟩
    obtain ⟨e0, he0, rfl⟩ := Array.mem_map.1 he
    show listed'.getD (σ.idxOf e0.on) false = true
    rw [hedge e0 he0]; exact hall e0 he0 hb
theorem perm_yielded (h : PermOK σ l) (tmps : Array Value) {g : Nat} (hg : g < l.length) : yielded (permL σ l).toArray tmps (σ.idxOf g) = yielded l.toArray tmps g := by
  obtain ⟨_, h2⟩ := h.at_ g hg
  obtain ⟨o, ho, hp⟩ := permL_at h h2
  unfold yielded
  rw [List.getElem?_toArray, List.getElem?_toArray, ho, hp]
  rfl
theorem perm_op (h : PermOK σ l) {k i : Nat} (hk : σ[k]? = some i) {K : Act → World → Prop} {a : Act} {w : World} (hw : wpOp P (permL σ l).toArray Q k K a w) : wpOp P l.toArray Q i K a w := by
  obtain ⟨o, ho, hp⟩ := permL_at h hk
  have hom : o ∈ l := List.mem_of_getElem? ho
  unfold wpOp at *
  rw [List.getElem?_toArray] at hw ⊢
  rw [hp] at hw
  rw [ho]
  have hwant : Region.wanted (ren (fun j => σ.idxOf j) o) (yielded (permL σ l).toArray a.tmps) = Region.wanted o (yielded l.toArray a.tmps) := by
    unfold Region.wanted ren
    cases hgd : o.guard with
    | none => rfl
    | some p =>
      obtain ⟨g, b⟩ := p
      dsimp only [Option.map]
      rw [perm_yielded h a.tmps (h.gd o hom g b hgd)]
  dsimp only at hw ⊢
  rw [hwant] at hw
  exact hw
theorem same_set (h : PermOK σ l) {listed listed' : Array Bool} (hs : SameL σ listed listed') {k i : Nat} (hk : σ[k]? = some i) : SameL σ (listed.setIfInBounds i true) (listed'.setIfInBounds k true) := by
  refine ⟨by simp [hs.1], by simp [hs.2.1], fun k' i' hk' d => ?_⟩
  by_cases e : k = k'
  · subst e
    have : i = i' := Option.some.inj (hk.symm.trans hk')
    subst this
    have h1 : k < listed'.size := by rw [hs.2.1]; exact (List.getElem?_eq_some_iff.1 hk).1
    have h2 : i < listed.size := by rw [hs.1, h.len]; exact (h.inv k i hk).1
    simp [h1, h2]
  · have hne : i ≠ i' := fun e2 => by
      subst e2
      exact e ((h.inv k i hk).2.symm.trans (h.inv k' i hk').2)
    rw [getD_set_ne d e, getD_set_ne d hne]
    exact hs.2.2 k' i' hk' d
theorem perm_any (h : PermOK σ l) : ∀ (fuel : Nat) (listed listed' : Array Bool) (a : Act) (w : World), SameL σ listed listed' → wpAny P .any (permL σ l).toArray Q fuel listed' a w → wpAny P .any l.toArray Q fuel listed a w := by
  have nil : ∀ {listed listed' : Array Bool}, SameL σ listed listed' → Region.ready .any l.toArray listed = [] → Region.ready .any (permL σ l).toArray listed' = [] := fun {listed listed'} hs hr => by
    apply List.eq_nil_iff_forall_not_mem.2
    intro k hk
    have hlt : k < σ.length := by
      obtain ⟨_, o, ho, _⟩ := mem_ready.1 hk
      have := (Array.getElem?_eq_some_iff.1 ho).1
      simpa [permL_len] using this
    have := (perm_ready h hs (List.getElem?_eq_getElem hlt)).1 hk
    rw [hr] at this; cases this
  have nil' : ∀ {listed listed' : Array Bool}, SameL σ listed listed' → Region.ready .any (permL σ l).toArray listed' = [] → Region.ready .any l.toArray listed = [] := fun {listed listed'} hs hr => by
    apply List.eq_nil_iff_forall_not_mem.2
    intro i hi
    have hlt : i < l.length := by
      obtain ⟨_, o, ho, _⟩ := mem_ready.1 hi
      simpa using (Array.getElem?_eq_some_iff.1 ho).1
    have := (perm_ready h hs (h.at_ i hlt).2).2 hi
    rw [hr] at this; cases this
  intro fuel
  induction fuel with
  | zero => intro listed listed' a w hs hw; exact ⟨nil' hs hw.1, hw.2⟩
  | succ fuel ih =>
    intro listed listed' a w hs hw
    refine ⟨fun hr => hw.1 (nil hs hr), fun i hi => ?_⟩
    have hlt : i < l.length := by
      obtain ⟨_, o, ho, _⟩ := mem_ready.1 hi
      simpa using (Array.getElem?_eq_some_iff.1 ho).1
    have hk := (h.at_ i hlt).2
    exact wpOp_mono (fun a' w' h' => ih _ _ a' w' (same_set h hs hk) h') (perm_op h hk (hw.2 _ ((perm_ready h hs hk).2 hi)))
end
end Go.G


namespace Go.Proofs.YtpfgiednfjfdmaaDoor
open Go.G Debt10
set_option maxRecDepth 1000000
attribute [local irreducible] G.ParO G.Fin
theorem total_bd {c : Int} (hc : 0 ≤ c) : ∀ {l : List Opn}, (∀ x ∈ l, 0 ≤ x.left ∧ x.left ≤ c) → 0 ≤ total l ∧ total l ≤ c * (l.length : Int)
  | [], _ => by show (0 : Int) ≤ 0 ∧ (0 : Int) ≤ c * 0; omega
  | x :: r, h => by
    have h1 := h x (List.mem_cons_self ..)
    have h2 := total_bd hc (l := r) fun y hy => h y (List.mem_cons_of_mem _ hy)
    have e : c * ((x :: r).length : Int) = c * (r.length : Int) + c := by rw [List.length_cons]; push_cast; rw [Int.mul_add, Int.mul_one]
    rw [e]
    show 0 ≤ x.left + total r ∧ x.left + total r ≤ _
    omega
theorem left_bd {D : Debt} (hg : GoodD D) (who : Int) {d : Nat} (hd : d ≤ 30) : (0 ≤ (leftT D who d).lo ∧ (leftT D who d).lo ≤ 6000) ∧ 0 ≤ (leftT D who d).hi ∧ (leftT D who d).hi ≤ 6000 := by
  have h0 := total_bd (c := 1000) (by omega) fun x hx => ((prog_bd hg 0 who (d + 1) (by omega)).1 x hx).1
  have h1 := total_bd (c := 1000) (by omega) fun x hx => ((prog_bd hg 1 who (d + 1) (by omega)).1 x hx).1
  have g0 := prog_lenA hg 0 who (d + 1)
  have g1 := prog_lenA hg 1 who (d + 1)
  unfold leftT
  dsimp only
  omega
theorem need_bd {D : Debt} (hg : GoodD D) (who : Int) {d : Nat} (hd : d ≤ 30) : 0 ≤ needT D who d ∧ needT D who d ≤ 6000 := by
  have h1 := total_bd (c := 1000) (by omega) fun x hx => ((prog_bdB hg 1 who d (by omega)).1 x hx).1
  have g1 := prog_lenB hg 1 who d
  unfold needT
  omega
/-- What is left of all people before the k-th. -/
def sumT (D : Debt) (d : Nat) : Nat → Debt10.Span
  | 0 => ⟨0, 0⟩
  | k + 1 => ⟨(sumT D d k).lo + (leftT D k d).lo, (sumT D d k).hi + (leftT D k d).hi⟩
theorem sum_bd {D : Debt} (hg : GoodD D) {d : Nat} (hd : d ≤ 30) : ∀ k : Nat, (0 ≤ (sumT D d k).lo ∧ (sumT D d k).lo ≤ 6000 * (k : Int)) ∧ 0 ≤ (sumT D d k).hi ∧ (sumT D d k).hi ≤ 6000 * (k : Int)
  | 0 => by simp [sumT]
  | k + 1 => by
    have h1 := sum_bd hg hd k
    have h2 := left_bd hg k hd
    show (0 ≤ (sumT D d k).lo + (leftT D k d).lo ∧ (sumT D d k).lo + (leftT D k d).lo ≤ 6000 * ((k + 1 : Nat) : Int)) ∧ 0 ≤ (sumT D d k).hi + (leftT D k d).hi ∧ (sumT D d k).hi + (leftT D k d).hi ≤ 6000 * ((k + 1 : Nat) : Int)
    push_cast
    omega
def sumB (D : Debt) (d : Int) : Debt10.Span × Int := ansD D (isDy d) ⟨0, 0⟩ (sumT D d.toNat D.people.toNat)
variable (D : Debt) (uo po : Option Addr) (uc pc : Nat)
set_option maxHeartbeats 4000000 in
theorem sum24_x1 (d : Int) (hl1 : D.dues.length ≤ 40) (hl2 : D.paid.length ≤ 40) (hng : ¬ GoodD D) : FnV Tryd.prog 24 [valD D uo po uc pc, i64 d] [rowD uo 5 encD D.dues, rowD po 4 encP D.paid, rowD (some ⟨0, 0, none⟩) 1 encE ([0, 1] : List Nat)] (.tuple #[vS (sumB D d).1, i64 (sumB D d).2]) := by
  refine FnV.introD Tryd.call24 Tryd.func24 rfl Tryd.ntmps24 rfl ?_
  intro W M Rf
  refine r_seq ?_
  refine r_region ?_
  refine o_boxA rfl rfl rfl rfl rfl (fun b2 => ?_)
  refine o_alloc rfl inf29 rfl rfl rfl rfl rfl (fun b4 => ?_)
  refine o_alloc rfl inf30 rfl rfl rfl rfl rfl (fun b5 => ?_)
  refine o_nil ?_
  repeat (first | with_reducible refine r_then ?_ | with_reducible refine r_in_normal ?_ | with_reducible refine r_sc_normal ?_)
  refine r_seq ?_
  refine r_region ?_
  refine o_defer rfl rfl rfl rfl ?_
  refine o_nil ?_
  repeat (first | with_reducible refine r_then ?_ | with_reducible refine r_in_normal ?_ | with_reducible refine r_sc_normal ?_)
  refine r_seq ?_
  refine r_parX 4 mixed (by kernel_rfl) (by rfl) ?_
  first | refine p_q _ rfl rfl rfl (fun _ _ => v_ldW rfl Tryd.underlying25 rfl inf25 rfl rfl) ?_ | refine p_q _ rfl rfl rfl (fun _ _ => v_lfW rfl Tryd.underlying25 rfl inf25 rfl rfl) ?_ | refine p_q _ rfl rfl rfl (fun _ _ => v_lfN rfl Tryd.underlying25 rfl inf25 rfl rfl rfl) ?_ | refine p_q _ rfl rfl rfl (fun _ _ => v_ldN rfl Tryd.underlying25 rfl inf25 rfl rfl rfl) ?_ | refine p_q _ rfl rfl rfl (fun _ _ => v_loadEN rfl Tryd.underlying25 rfl inf25 rfl (by omega) rfl rfl rfl) ?_
  refine p_q _ rfl rfl rfl (fun _ _ => v_move rfl rfl) ?_
  refine p_q _ rfl rfl rfl (fun _ _ => OpQ.fn (isDay_v d) rfl rfl SubRC.sub) ?_
  refine p_deadX (look_x1 D uo po uc pc _ hl1 hl2 hng) rfl rfl rfl rfl rfl SubRC.sub ?_
  refine p_nilX (panOf (.iface 103 (i64 1))) (by simp only [List.nil_append, List.cons_append]; rfl) rfl (by kernel_rfl) rfl ?_ ?_
  ·
    repeat (first | with_reducible refine r_then_panic ?_ | with_reducible refine r_in_panic ?_ | with_reducible refine r_sc_panic ?_)
    exact d_panv answer_ans (Rd.two rfl (RdI.cellW Tryd.underlying29 rfl inf29 rfl rfl) (RdI.cell1 Tryd.underlying30 rfl rfl rfl)) (by rw [sumB, ansD_n (chkD_1 hng) (by decide)]; try rfl) SelMC.sel SubRC.sub
  ·
    refine f_q rfl ?_
    refine f_q rfl ?_
    refine f_q rfl ?_
    exact f_dead
set_option maxHeartbeats 4000000 in
theorem sum24_x2 (d : Int) (hl1 : D.dues.length ≤ 40) (hl2 : D.paid.length ≤ 40) (hg : GoodD D) (h2 : isDy d = false) : FnV Tryd.prog 24 [valD D uo po uc pc, i64 d] [rowD uo 5 encD D.dues, rowD po 4 encP D.paid, rowD (some ⟨0, 0, none⟩) 1 encE ([0, 1] : List Nat)] (.tuple #[vS (sumB D d).1, i64 (sumB D d).2]) := by
  refine FnV.introD Tryd.call24 Tryd.func24 rfl Tryd.ntmps24 rfl ?_
  intro W M Rf
  refine r_seq ?_
  refine r_region ?_
  refine o_boxA rfl rfl rfl rfl rfl (fun b2 => ?_)
  refine o_alloc rfl inf29 rfl rfl rfl rfl rfl (fun b4 => ?_)
  refine o_alloc rfl inf30 rfl rfl rfl rfl rfl (fun b5 => ?_)
  refine o_nil ?_
  repeat (first | with_reducible refine r_then ?_ | with_reducible refine r_in_normal ?_ | with_reducible refine r_sc_normal ?_)
  refine r_seq ?_
  refine r_region ?_
  refine o_defer rfl rfl rfl rfl ?_
  refine o_nil ?_
  repeat (first | with_reducible refine r_then ?_ | with_reducible refine r_in_normal ?_ | with_reducible refine r_sc_normal ?_)
  refine r_seq ?_
  refine r_parX 4 mixed (by kernel_rfl) (by rfl) ?_
  first | refine p_q _ rfl rfl rfl (fun _ _ => v_ldW rfl Tryd.underlying25 rfl inf25 rfl rfl) ?_ | refine p_q _ rfl rfl rfl (fun _ _ => v_lfW rfl Tryd.underlying25 rfl inf25 rfl rfl) ?_ | refine p_q _ rfl rfl rfl (fun _ _ => v_lfN rfl Tryd.underlying25 rfl inf25 rfl rfl rfl) ?_ | refine p_q _ rfl rfl rfl (fun _ _ => v_ldN rfl Tryd.underlying25 rfl inf25 rfl rfl rfl) ?_ | refine p_q _ rfl rfl rfl (fun _ _ => v_loadEN rfl Tryd.underlying25 rfl inf25 rfl (by omega) rfl rfl rfl) ?_
  refine p_q _ rfl rfl rfl (fun _ _ => v_move rfl rfl) ?_
  refine p_q _ rfl rfl rfl (fun _ _ => v_cast (v := .bool false) (OpQ.fn (isDay_v d) rfl rfl SubRC.sub) (congrArg Value.bool h2)) ?_
  refine p_deadX (look_x2 D uo po uc pc hl1 hl2 hg) rfl rfl rfl rfl rfl SubRC.sub ?_
  refine p_nilX (panOf (.iface 103 (i64 2))) (by simp only [List.nil_append, List.cons_append]; rfl) rfl (by kernel_rfl) rfl ?_ ?_
  ·
    repeat (first | with_reducible refine r_then_panic ?_ | with_reducible refine r_in_panic ?_ | with_reducible refine r_sc_panic ?_)
    exact d_panv answer_ans (Rd.two rfl (RdI.cellW Tryd.underlying29 rfl inf29 rfl rfl) (RdI.cell1 Tryd.underlying30 rfl rfl rfl)) (by rw [sumB, ansD_n (chkD_2 hg h2) (by decide)]; try rfl) SelMC.sel SubRC.sub
  ·
    refine f_q rfl ?_
    refine f_q rfl ?_
    refine f_q rfl ?_
    exact f_dead
set_option maxHeartbeats 4000000 in
theorem sum24_ok (d : Int) (hl1 : D.dues.length ≤ 40) (hl2 : D.paid.length ≤ 40) (hg : GoodD D) (h2 : isDy d = true) : FnV Tryd.prog 24 [valD D uo po uc pc, i64 d] [rowD uo 5 encD D.dues, rowD po 4 encP D.paid, rowD (some ⟨0, 0, none⟩) 1 encE ([0, 1] : List Nat)] (.tuple #[vS (sumB D d).1, i64 (sumB D d).2]) := by
  obtain ⟨dn, rfl⟩ : ∃ n : Nat, d = n := ⟨d.toNat, by have := of_decide_eq_true h2; omega⟩
  have hd := of_decide_eq_true h2
  have hq1 := hg.np
  have hdn : dn ≤ 30 := by omega
  refine FnV.introD Tryd.call24 Tryd.func24 rfl Tryd.ntmps24 rfl ?_
  intro W M Rf
  refine r_seq ?_
  refine r_region ?_
  refine o_boxA rfl rfl rfl rfl rfl (fun b2 => ?_)
  refine o_alloc rfl inf29 rfl rfl rfl rfl rfl (fun b4 => ?_)
  refine o_alloc rfl inf30 rfl rfl rfl rfl rfl (fun b5 => ?_)
  refine o_nil ?_
  repeat (first | with_reducible refine r_then ?_ | with_reducible refine r_in_normal ?_ | with_reducible refine r_sc_normal ?_)
  refine r_seq ?_
  refine r_region ?_
  refine o_defer rfl rfl rfl rfl ?_
  refine o_nil ?_
  repeat (first | with_reducible refine r_then ?_ | with_reducible refine r_in_normal ?_ | with_reducible refine r_sc_normal ?_)
  refine r_seq ?_
  refine r_par' 3 mixed (by kernel_rfl) (by rfl) ?_
  first | refine p_q _ rfl rfl rfl (fun _ _ => v_ldW rfl Tryd.underlying25 rfl inf25 rfl rfl) ?_ | refine p_q _ rfl rfl rfl (fun _ _ => v_lfW rfl Tryd.underlying25 rfl inf25 rfl rfl) ?_ | refine p_q _ rfl rfl rfl (fun _ _ => v_lfN rfl Tryd.underlying25 rfl inf25 rfl rfl rfl) ?_ | refine p_q _ rfl rfl rfl (fun _ _ => v_ldN rfl Tryd.underlying25 rfl inf25 rfl rfl rfl) ?_ | refine p_q _ rfl rfl rfl (fun _ _ => v_loadEN rfl Tryd.underlying25 rfl inf25 rfl (by omega) rfl rfl rfl) ?_
  refine p_q _ rfl rfl rfl (fun _ _ => v_move rfl rfl) ?_
  refine p_q _ rfl rfl rfl (fun _ _ => v_cast (v := .bool true) (OpQ.fn (isDay_v _) rfl rfl SubRC.sub) (congrArg Value.bool h2)) ?_
  refine p_nil2 (by simp only [List.nil_append, List.cons_append]; rfl) rfl ?_
  refine f_q rfl ?_
  refine f_q rfl ?_
  refine f_q rfl ?_
  refine f_nil ?_
  refine o_fnR (look_ok D uo po uc pc hl1 hl2 hg) rfl rfl rfl rfl rfl SubRC.sub (fun lb => ?_)
  refine o_q _ rfl rfl rfl (v_assign rfl rfl) ?_
  refine o_nil ?_
  repeat (first | with_reducible refine r_then ?_ | with_reducible refine r_in_normal ?_ | with_reducible refine r_sc_normal ?_)
  refine r_seq ?_
  refine opened D uo po uc pc lb (fun mb => ?_)
  refine r_region ?_
  refine o_alloc rfl inf29 rfl rfl rfl rfl rfl (fun b7 => ?_)
  refine o_nil ?_
  repeat (first | with_reducible refine r_then ?_ | with_reducible refine r_in_normal ?_ | with_reducible refine r_sc_normal ?_)
  refine r_seq ?_
  refine r_seq ?_
  refine Imp.box_to b7 [i64 (sumT D dn (0)).lo, i64 (sumT D dn (0)).hi] rfl ?_
  refine r_region ?_
  first | refine o_q _ rfl rfl rfl (v_fieldAddr rfl Tryd.underlying25 inf3 rfl rfl rfl rfl) ?_ | refine o_q _ rfl rfl rfl (v_fieldAddrE rfl Tryd.underlying25 inf3 rfl rfl rfl rfl) ?_
  first | refine o_q _ rfl rfl rfl (v_ld1 rfl Tryd.underlying3 rfl rfl rfl) ?_ | refine o_q _ rfl rfl rfl (v_lf1 rfl Tryd.underlying3 rfl rfl rfl) ?_ | refine o_q _ rfl rfl rfl (v_loadE1 rfl Tryd.underlying3 rfl rfl (by omega) rfl rfl) ?_
  refine o_q _ rfl rfl rfl (v_move rfl rfl) ?_
  refine o_nil ?_
  repeat (first | with_reducible refine r_then ?_ | with_reducible refine r_in_normal ?_ | with_reducible refine r_sc_normal ?_)
  refine r_block ?_
  refine r_loop (ι := Nat × Cont) (fun gh => (gh.1 : Int) ≤ D.people) (fun gh => [(1, i64 (dn : Int)), (2, pt b2 0), (4, pt b4 0), (5, pt b5 0), (6, pt lb 0), (7, pt b7 0), (15, i64 D.people), (16, i64 (gh.1 : Int))]) (fun gh => mapG Tryd.prog 113 mb gh.2 :: bx b7 29 [i64 (sumT D dn (gh.1)).lo, i64 (sumT D dn (gh.1)).hi] :: bx b5 30 [i64 0] :: bx b4 29 [i64 0, i64 0] :: M) (fun gh => entF D gh.2 :: boxF lb 108 [i64 D.people, .slice uo D.dues.length uc, .slice po D.paid.length pc, .map (some mb)] :: ([rowD uo 5 encD D.dues, rowD po 4 encP D.paid, rowD (some ⟨0, 0, none⟩) 1 encE ([0, 1] : List Nat)] ++ Rf)) (fun gh => D.people.toNat - gh.1) (0, fun _ => none) ?_ ?_ ?_
  ·
    refine Imp.box_to b5 [i64 0] rfl ?_
    refine Imp.box_to b4 [i64 0, i64 0] rfl ?_
    exact r_here (by repeat (first | exact FSub.nil | refine FSub.cons rfl ?_)) SelMC.sel SubRC.sub
  ·
    show (0 : Int) ≤ D.people; omega
  ·
    rintro ⟨k, G⟩ hI0
    dsimp only at hI0
    dsimp only
    have hI : (k : Int) ≤ D.people := hI0
    refine r_seq ?_
    refine r_region ?_
    refine o_q _ rfl rfl rfl (v_lss rfl rfl rfl) ?_
    refine o_nil ?_
    repeat (first | with_reducible refine r_then ?_ | with_reducible refine r_in_normal ?_ | with_reducible refine r_sc_normal ?_)
    refine r_seq ?_
    first | refine r_condd rfl (fun hc17 => ?_) (fun hc17 => ?_) | refine r_cond rfl (fun hc17 => ?_) (fun hc17 => ?_)
    ·
      first
      | (exfalso; revert hc17; decide)
      | (exfalso; omega)
      | skip
        refine r_skip ?_
        repeat (first | with_reducible refine r_then ?_ | with_reducible refine r_in_normal ?_ | with_reducible refine r_sc_normal ?_)
        refine r_seq ?_
        refine r_block ?_
        refine r_seq ?_
        refine r_region ?_
        refine o_q _ rfl rfl rfl (v_move rfl rfl) ?_
        refine o_q _ rfl rfl rfl (v_assign rfl rfl) ?_
        refine o_nil ?_
        repeat (first | with_reducible refine r_then ?_ | with_reducible refine r_in_normal ?_ | with_reducible refine r_sc_normal ?_)
        refine r_seq ?_
        refine r_region ?_
        refine o_q _ rfl rfl rfl (v_move rfl rfl) ?_
        refine o_q _ rfl rfl rfl (v_move rfl rfl) ?_
        refine o_q _ rfl rfl rfl (v_move rfl rfl) ?_
        refine o_fnX (left_s D uo po uc pc lb mb G (k : Int) dn hg (by omega) hdn) rfl rfl rfl rfl rfl SubRC.sub (fun x22 _ => ?_)
        refine o_alloc rfl inf29 rfl rfl rfl rfl rfl (fun b9 => ?_)
        refine o_st rfl inf29 rfl rfl rfl rfl rfl rfl rfl rfl ?_
        refine o_nil ?_
        repeat (first | with_reducible refine r_then ?_ | with_reducible refine r_in_normal ?_ | with_reducible refine r_sc_normal ?_)
        have hb1 := sum_bd hg hdn k
        have hb2 := left_bd hg (k : Int) hdn
        refine Imp.box_to b9 [i64 (leftT D (k : Int) dn).lo, i64 (leftT D (k : Int) dn).hi] rfl ?_
        refine r_region ?_
        first | refine o_q _ rfl rfl rfl (v_fieldAddr rfl Tryd.underlying29 inf3 rfl rfl rfl rfl) ?_ | refine o_q _ rfl rfl rfl (v_fieldAddrE rfl Tryd.underlying29 inf3 rfl rfl rfl rfl) ?_
        first | refine o_q _ rfl rfl rfl (v_ld1 rfl Tryd.underlying3 rfl rfl rfl) ?_ | refine o_q _ rfl rfl rfl (v_lf1 rfl Tryd.underlying3 rfl rfl rfl) ?_ | refine o_q _ rfl rfl rfl (v_loadE1 rfl Tryd.underlying3 rfl rfl (by omega) rfl rfl) ?_
        first | refine o_q _ rfl rfl rfl (v_fieldAddr rfl Tryd.underlying29 inf3 rfl rfl rfl rfl) ?_ | refine o_q _ rfl rfl rfl (v_fieldAddrE rfl Tryd.underlying29 inf3 rfl rfl rfl rfl) ?_
        first | refine o_q _ rfl rfl rfl (v_ld1 rfl Tryd.underlying3 rfl rfl rfl) ?_ | refine o_q _ rfl rfl rfl (v_lf1 rfl Tryd.underlying3 rfl rfl rfl) ?_ | refine o_q _ rfl rfl rfl (v_loadE1 rfl Tryd.underlying3 rfl rfl (by omega) rfl rfl) ?_
        refine o_q _ rfl rfl rfl (v_add rfl rfl rfl (by omega)) ?_
        first | refine o_q _ rfl rfl rfl (v_fieldAddr rfl Tryd.underlying29 inf3 rfl rfl rfl rfl) ?_ | refine o_q _ rfl rfl rfl (v_fieldAddrE rfl Tryd.underlying29 inf3 rfl rfl rfl rfl) ?_
        first | refine o_q _ rfl rfl rfl (v_ld1 rfl Tryd.underlying3 rfl rfl rfl) ?_ | refine o_q _ rfl rfl rfl (v_lf1 rfl Tryd.underlying3 rfl rfl rfl) ?_ | refine o_q _ rfl rfl rfl (v_loadE1 rfl Tryd.underlying3 rfl rfl (by omega) rfl rfl) ?_
        first | refine o_q _ rfl rfl rfl (v_fieldAddr rfl Tryd.underlying29 inf3 rfl rfl rfl rfl) ?_ | refine o_q _ rfl rfl rfl (v_fieldAddrE rfl Tryd.underlying29 inf3 rfl rfl rfl rfl) ?_
        first | refine o_q _ rfl rfl rfl (v_ld1 rfl Tryd.underlying3 rfl rfl rfl) ?_ | refine o_q _ rfl rfl rfl (v_lf1 rfl Tryd.underlying3 rfl rfl rfl) ?_ | refine o_q _ rfl rfl rfl (v_loadE1 rfl Tryd.underlying3 rfl rfl (by omega) rfl rfl) ?_
        refine o_q _ rfl rfl rfl (v_add rfl rfl rfl (by omega)) ?_
        refine o_q _ rfl rfl rfl (v_bS rfl Tryd.underlying29 inf29 plt29 rfl rfl rfl (by repeat (first | exact trivial | refine ⟨rfl, ?_⟩)) (by rfl)) ?_
        refine o_st rfl inf29 rfl rfl rfl rfl rfl rfl rfl rfl ?_
        refine o_nil ?_
        repeat (first | with_reducible refine r_then ?_ | with_reducible refine r_in_normal ?_ | with_reducible refine r_sc_normal ?_)
        refine r_region ?_
        refine o_q _ rfl rfl rfl (v_add rfl rfl rfl (by omega)) ?_
        refine o_q _ rfl rfl rfl (v_move rfl rfl) ?_
        refine o_nil ?_
        repeat (first | with_reducible refine r_then ?_ | with_reducible refine r_in_normal ?_ | with_reducible refine r_sc_normal ?_)
        first
        | exact r_next ((k + 1, x22)) (by refine Imp.box_to b7 [i64 (sumT D dn (k + 1)).lo, i64 (sumT D dn (k + 1)).hi] rfl ?_; exact r_here (by repeat (first | exact FSub.nil | refine FSub.cons rfl ?_)) SelMC.sel SubRC.sub) (by (show ((k + 1 : Nat) : Int) ≤ D.people; omega)) (by (show D.people.toNat - (k + 1) < D.people.toNat - k; omega))
    ·
      first
      | (exfalso; revert hc17; decide)
      | (exfalso; omega)
      | skip
        refine r_exit ?_
        repeat (first | with_reducible refine r_then_exit ?_ | with_reducible refine r_sc_exit ?_ | with_reducible refine r_in_here ?_ | (with_reducible refine r_in_past (by decide) ?_) | with_reducible refine r_then ?_ | with_reducible refine r_in_normal ?_ | with_reducible refine r_sc_normal ?_)
        refine r_seq ?_
        obtain rfl : k = D.people.toNat := by omega
        refine r_region ?_
        first | refine o_q _ rfl rfl rfl (v_ldW rfl Tryd.underlying29 rfl inf29 rfl rfl) ?_ | refine o_q _ rfl rfl rfl (v_lfW rfl Tryd.underlying29 rfl inf29 rfl rfl) ?_ | refine o_q _ rfl rfl rfl (v_lfN rfl Tryd.underlying29 rfl inf29 rfl rfl rfl) ?_ | refine o_q _ rfl rfl rfl (v_ldN rfl Tryd.underlying29 rfl inf29 rfl rfl rfl) ?_ | refine o_q _ rfl rfl rfl (v_loadEN rfl Tryd.underlying29 rfl inf29 rfl (by omega) rfl rfl rfl) ?_
        refine o_st rfl inf29 rfl rfl rfl rfl rfl rfl rfl rfl ?_
        refine o_st rfl inf30 rfl rfl rfl rfl rfl rfl rfl rfl ?_
        refine o_nil ?_
        repeat (first | with_reducible refine r_then ?_ | with_reducible refine r_in_normal ?_ | with_reducible refine r_sc_normal ?_)
        refine r_ret ?_
        repeat (first | with_reducible refine r_then_ret ?_ | with_reducible refine r_in_ret ?_ | with_reducible refine r_sc_ret ?_)
        refine Imp.box_to b4 [i64 (sumT D dn D.people.toNat).lo, i64 (sumT D dn D.people.toNat).hi] rfl ?_
        exact d_retv answer_ans (Rd.two rfl (RdI.cellW Tryd.underlying29 rfl inf29 rfl rfl) (RdI.cell1 Tryd.underlying30 rfl rfl rfl)) (by rw [sumB, ansD_0 (chkD_0 hg h2), Int.toNat_natCast]; try rfl) SelMC.sel SubRC.sub
theorem sum24_v (d : Int) (hl1 : D.dues.length ≤ 40) (hl2 : D.paid.length ≤ 40) : FnV Tryd.prog 24 [valD D uo po uc pc, i64 d] [rowD uo 5 encD D.dues, rowD po 4 encP D.paid, rowD (some ⟨0, 0, none⟩) 1 encE ([0, 1] : List Nat)] (.tuple #[vS (sumB D d).1, i64 (sumB D d).2]) := by
  by_cases hg : GoodD D
  · cases h2 : isDy d
    · exact sum24_x2 D uo po uc pc d hl1 hl2 hg h2
    · exact sum24_ok D uo po uc pc d hl1 hl2 hg h2
  · exact sum24_x1 D uo po uc pc d hl1 hl2 hg
/-- Whether a payment is one of the same person and day as one before; which rule a payment breaks. -/
def TwiceP (D : Debt) (k : Nat) : Prop := ∃ j, j < k ∧ (D.paid.getD j default).who = (D.paid.getD k default).who ∧ (D.paid.getD j default).day = (D.paid.getD k default).day
instance (D : Debt) (k : Nat) : Decidable (TwiceP D k) := decidable_of_iff ((List.range k).any (fun j => decide ((D.paid.getD j default).who = (D.paid.getD k default).who ∧ (D.paid.getD j default).day = (D.paid.getD k default).day)) = true) (by
  rw [List.any_eq_true]
  constructor
  · rintro ⟨j, hj, h⟩; exact ⟨j, List.mem_range.1 hj, of_decide_eq_true h⟩
  · rintro ⟨j, hj, h⟩; exact ⟨j, List.mem_range.2 hj, decide_eq_true h⟩)
def worstA (D : Debt) (k : Nat) : Int := (progA D 1 (D.paid.getD k default).who ((D.paid.getD k default).day.toNat + 1)).2
def ruleP (D : Debt) (k : Nat) : Int := if TwiceP D k then 1 else if worstA D k > 0 then 2 else 0
/-- The first of the payments before the n-th that breaks a rule. -/
def firstR (D : Debt) : Nat → Option Nat
  | 0 => none
  | n + 1 => match firstR D n with
    | some i => some i
    | none => if ruleP D n ≠ 0 then some n else none
def checkT (D : Debt) : (Int × Int) × Int := match firstR D D.paid.length with
  | some i => (((i : Int), ruleP D i), 0)
  | none => ((0, 0), 4)
def checkB (D : Debt) : (Int × Int) × Int := if GoodD D then checkT D else ((0, 0), 1)
theorem firstR_y {D : Debt} {k : Nat} (h : firstR D k = none) (hr : ruleP D k ≠ 0) : firstR D (k + 1) = some k := by unfold firstR; rw [h]; exact if_pos hr
theorem firstR_n {D : Debt} {k : Nat} (h : firstR D k = none) (hr : ruleP D k = 0) : firstR D (k + 1) = none := by unfold firstR; rw [h]; exact if_neg (fun h => h hr)
theorem firstR_up {D : Debt} {k i : Nat} (h : firstR D k = some i) : ∀ {n : Nat}, k ≤ n → firstR D n = some i
  | 0, hn => by obtain rfl : k = 0 := by omega
                exact h
  | n + 1, hn => by
    by_cases e : k = n + 1
    · subst e; exact h
    · unfold firstR; rw [firstR_up h (by omega)]
theorem check_hit {D : Debt} {k : Nat} (hg : GoodD D) (h : firstR D k = none) (hk : k < D.paid.length) (hr : ruleP D k ≠ 0) : checkB D = (((k : Int), ruleP D k), 0) := by
  unfold checkB checkT; rw [if_pos hg, firstR_up (firstR_y h hr) (by omega)]
theorem check_none {D : Debt} (hg : GoodD D) (h : firstR D D.paid.length = none) : checkB D = ((0, 0), 4) := by unfold checkB checkT; rw [if_pos hg, h]
theorem rule_1 {D : Debt} {k : Nat} (h : TwiceP D k) : ruleP D k = 1 := if_pos h
theorem rule_2 {D : Debt} {k : Nat} (h : ¬ TwiceP D k) (h2 : 0 < worstA D k) : ruleP D k = 2 := by unfold ruleP; rw [if_neg h, if_pos h2]
theorem rule_0 {D : Debt} {k : Nat} (h : ¬ TwiceP D k) (h2 : ¬ 0 < worstA D k) : ruleP D k = 0 := by unfold ruleP; rw [if_neg h, if_neg h2]
@[reducible] def bkV (who day : Int) : Value := .agg #[i64 who, i64 day]
theorem bkV_inj {a b a' b' : Int} (h : bkV a b = bkV a' b') : a = a' ∧ b = b' := by
  have h2 : [i64 a, i64 b] = [i64 a', i64 b'] := congrArg Array.toList (Value.agg.inj h)
  simp only [List.cons.injEq, Value.int.injEq, true_and, and_true] at h2
  exact h2
/-- The bookings that were seen. -/
noncomputable def seenC (D : Debt) : Nat → Cont
  | 0 => fun _ => none
  | k + 1 => (seenC D k).put (bkV (D.paid.getD k default).who (D.paid.getD k default).day) (.bool true)
theorem seen_y {D : Debt} {a b : Int} : ∀ {k : Nat}, (∃ j, j < k ∧ (D.paid.getD j default).who = a ∧ (D.paid.getD j default).day = b) → seenC D k (bkV a b) = some (.bool true)
  | 0, ⟨j, hj, _⟩ => by omega
  | k + 1, ⟨j, hj, h1, h2⟩ => by
    unfold seenC
    by_cases e : bkV a b = bkV (D.paid.getD k default).who (D.paid.getD k default).day
    · rw [e, Cont.put_eq]
    · rw [Cont.put_ne _ _ e]
      refine seen_y ⟨j, ?_, h1, h2⟩
      rcases Nat.lt_succ_iff_lt_or_eq.1 hj with h | rfl
      · exact h
      · exact absurd (by rw [h1, h2]) e
theorem seen_n {D : Debt} {a b : Int} : ∀ {k : Nat}, (¬ ∃ j, j < k ∧ (D.paid.getD j default).who = a ∧ (D.paid.getD j default).day = b) → seenC D k (bkV a b) = none
  | 0, _ => rfl
  | k + 1, h => by
    unfold seenC
    rw [Cont.put_ne _ _ (fun e => by
      obtain ⟨h1, h2⟩ := bkV_inj e
      exact h ⟨k, by omega, h1.symm, h2.symm⟩)]
    exact seen_n fun ⟨j, hj, h1, h2⟩ => h ⟨j, by omega, h1, h2⟩
theorem keyLaw98 : WideMaps.KeyLaw Tryd.prog 98 := deep_law_gate laid0 (by decide +kernel) (by decide +kernel) (by kernel_rfl) (by kernel_rfl)
theorem key98_of {a b : Int} (ha : -1000 ≤ a ∧ a ≤ 1000) (hb : -1000 ≤ b ∧ b ≤ 1000) : ∃ l, keyOf Tryd.prog 98 (bkV a b) = some l := by
  have h1 := Tryd.underlying98
  unfold keyOf
  rw [h1]
  have h2 : Tryd.prog.keyType 98 = true := by kernel_rfl
  have h3 : (bkV a b).formed Tryd.prog 98 = true := by kernel_rfl
  have c98 : Tryd.prog.cellsOf 98 = 2 := by kernel_rfl
  have c3 : Tryd.prog.cellsOf 3 = 1 := by kernel_rfl
  have kl3 : ∀ (s : Int), (-1000 ≤ s ∧ s ≤ 1000) → ∀ d, Tryd.prog.keyLits (d + 1) 3 [i64 s] = some [.int .i64 s] := fun s hs d => by
    have hw : (Lit.int .i64 s).wf = true := by
      have m1 : IntKind.i64.min = -9223372036854775808 := rfl
      have m2 : IntKind.i64.max = 9223372036854775807 := rfl
      simp only [Lit.wf]
      simp
      omega
    unfold Program.keyLits
    rw [Tryd.underlying3]
    simp [hw]
  have k1 := kl3 a ha
  have k2 := kl3 b hb
  have e98 : Tryd.prog.keyLits (Tryd.prog.types.size + 1) 98 (bkV a b).cells.toList = some [.int .i64 a, .int .i64 b] := by
    have hsz : Tryd.prog.types.size + 1 = 184 + 2 := by kernel_rfl
    rw [hsz]
    unfold Program.keyLits
    rw [Tryd.underlying98]
    simp [c98, c3, Value.cells, k1, k2]
  rw [e98, h2, h3]
  exact ⟨_, rfl⟩
set_option maxHeartbeats 4000000 in
theorem check28_x (hl1 : D.dues.length ≤ 40) (hl2 : D.paid.length ≤ 40) (hng : ¬ GoodD D) : FnV Tryd.prog 28 [valD D uo po uc pc] [rowD uo 5 encD D.dues, rowD po 4 encP D.paid, rowD (some ⟨0, 0, none⟩) 1 encE ([0, 1] : List Nat)] (.tuple #[i64 (checkB D).1.1, i64 (checkB D).1.2, i64 (checkB D).2]) := by
  refine FnV.introD Tryd.call28 Tryd.func28 rfl Tryd.ntmps28 rfl ?_
  intro W M Rf
  refine r_seq ?_
  refine r_region ?_
  refine o_boxA rfl rfl rfl rfl rfl (fun b1 => ?_)
  refine o_q _ rfl rfl rfl (v_assign rfl rfl) ?_
  refine o_q _ rfl rfl rfl (v_assign rfl rfl) ?_
  refine o_alloc rfl inf30 rfl rfl rfl rfl rfl (fun b4 => ?_)
  refine o_nil ?_
  repeat (first | with_reducible refine r_then ?_ | with_reducible refine r_in_normal ?_ | with_reducible refine r_sc_normal ?_)
  refine r_seq ?_
  refine r_region ?_
  refine o_defer rfl rfl rfl rfl ?_
  refine o_nil ?_
  repeat (first | with_reducible refine r_then ?_ | with_reducible refine r_in_normal ?_ | with_reducible refine r_sc_normal ?_)
  refine r_seq ?_
  refine r_region ?_
  first | refine o_q _ rfl rfl rfl (v_ldW rfl Tryd.underlying25 rfl inf25 rfl rfl) ?_ | refine o_q _ rfl rfl rfl (v_lfW rfl Tryd.underlying25 rfl inf25 rfl rfl) ?_ | refine o_q _ rfl rfl rfl (v_lfN rfl Tryd.underlying25 rfl inf25 rfl rfl rfl) ?_ | refine o_q _ rfl rfl rfl (v_ldN rfl Tryd.underlying25 rfl inf25 rfl rfl rfl) ?_ | refine o_q _ rfl rfl rfl (v_loadEN rfl Tryd.underlying25 rfl inf25 rfl (by omega) rfl rfl rfl) ?_
  refine o_fnx (look_x1 D uo po uc pc true hl1 hl2 hng) rfl rfl rfl SubRC.sub ?_
  repeat (first | with_reducible refine r_then_panic ?_ | with_reducible refine r_in_panic ?_ | with_reducible refine r_sc_panic ?_)
  exact d_panv answer_ans (Rd.three rfl (RdI.tmp rfl) (RdI.tmp rfl) (RdI.cell1 Tryd.underlying30 rfl rfl rfl)) (by rw [show checkB D = ((0, 0), 1) from if_neg hng]; try rfl) SelMC.sel SubRC.sub
theorem Imp.seen_0 {D : Debt} (sb : Nat) {W : World} {n : Nat} {Df : List Deferred} {L : Tm} {M M' : List Res} {R : List Fact} {X : Act → World → Prop} [hd : DelC M (mapG Tryd.prog 98 sb (fun _ => none)) M'] (h : Imp W n Df L (mapG Tryd.prog 98 sb (seenC D 0) :: M') R X) : Imp W n Df L M R X := fun a w h1 h2 h3 => h a w h1 h2 (h3.perm hd.del.perm)
theorem Imp.seen_s {D : Debt} {k : Nat} (sb : Nat) {W : World} {n : Nat} {Df : List Deferred} {L : Tm} {M M' : List Res} {R : List Fact} {X : Act → World → Prop} [hd : DelC M (mapG Tryd.prog 98 sb ((seenC D k).put (bkV (D.paid.getD k default).who (D.paid.getD k default).day) (.bool true))) M'] (h : Imp W n Df L (mapG Tryd.prog 98 sb (seenC D (k + 1)) :: M') R X) : Imp W n Df L M R X := fun a w h1 h2 h3 => h a w h1 h2 (h3.perm hd.del.perm)
set_option maxHeartbeats 4000000 in
theorem check28_ok (hl1 : D.dues.length ≤ 40) (hl2 : D.paid.length ≤ 40) (hg : GoodD D) : FnV Tryd.prog 28 [valD D uo po uc pc] [rowD uo 5 encD D.dues, rowD po 4 encP D.paid, rowD (some ⟨0, 0, none⟩) 1 encE ([0, 1] : List Nat)] (.tuple #[i64 (checkB D).1.1, i64 (checkB D).1.2, i64 (checkB D).2]) := by
  refine FnV.introD Tryd.call28 Tryd.func28 rfl Tryd.ntmps28 rfl ?_
  intro W M Rf
  refine r_seq ?_
  refine r_region ?_
  refine o_boxA rfl rfl rfl rfl rfl (fun b1 => ?_)
  refine o_q _ rfl rfl rfl (v_assign rfl rfl) ?_
  refine o_q _ rfl rfl rfl (v_assign rfl rfl) ?_
  refine o_alloc rfl inf30 rfl rfl rfl rfl rfl (fun b4 => ?_)
  refine o_nil ?_
  repeat (first | with_reducible refine r_then ?_ | with_reducible refine r_in_normal ?_ | with_reducible refine r_sc_normal ?_)
  refine r_seq ?_
  refine r_region ?_
  refine o_defer rfl rfl rfl rfl ?_
  refine o_nil ?_
  repeat (first | with_reducible refine r_then ?_ | with_reducible refine r_in_normal ?_ | with_reducible refine r_sc_normal ?_)
  refine r_seq ?_
  refine r_region ?_
  first | refine o_q _ rfl rfl rfl (v_ldW rfl Tryd.underlying25 rfl inf25 rfl rfl) ?_ | refine o_q _ rfl rfl rfl (v_lfW rfl Tryd.underlying25 rfl inf25 rfl rfl) ?_ | refine o_q _ rfl rfl rfl (v_lfN rfl Tryd.underlying25 rfl inf25 rfl rfl rfl) ?_ | refine o_q _ rfl rfl rfl (v_ldN rfl Tryd.underlying25 rfl inf25 rfl rfl rfl) ?_ | refine o_q _ rfl rfl rfl (v_loadEN rfl Tryd.underlying25 rfl inf25 rfl (by omega) rfl rfl rfl) ?_
  refine o_fnR (look_ok D uo po uc pc hl1 hl2 hg) rfl rfl rfl rfl rfl SubRC.sub (fun lb => ?_)
  refine o_q _ rfl rfl rfl (v_assign rfl rfl) ?_
  refine o_nil ?_
  repeat (first | with_reducible refine r_then ?_ | with_reducible refine r_in_normal ?_ | with_reducible refine r_sc_normal ?_)
  refine r_seq ?_
  refine opened D uo po uc pc lb (fun mb => ?_)
  refine r_region ?_
  refine o_makeMapG (P := Tryd.prog) (k := 98) rfl rfl rfl rfl (fun sb => ?_)
  refine o_q _ rfl rfl rfl (v_assign rfl rfl) ?_
  refine o_nil ?_
  repeat (first | with_reducible refine r_then ?_ | with_reducible refine r_in_normal ?_ | with_reducible refine r_sc_normal ?_)
  refine r_seq ?_
  refine r_seq ?_
  refine r_region ?_
  first | refine o_q _ rfl rfl rfl (v_fieldAddr rfl Tryd.underlying25 inf23 rfl rfl rfl rfl) ?_ | refine o_q _ rfl rfl rfl (v_fieldAddrE rfl Tryd.underlying25 inf23 rfl rfl rfl rfl) ?_
  first | refine o_q _ rfl rfl rfl (v_ld1 rfl Tryd.underlying23 rfl rfl rfl) ?_ | refine o_q _ rfl rfl rfl (v_lf1 rfl Tryd.underlying23 rfl rfl rfl) ?_ | refine o_q _ rfl rfl rfl (v_loadE1 rfl Tryd.underlying23 rfl rfl (by omega) rfl rfl) ?_
  refine o_q _ rfl rfl rfl (v_len rfl rfl Tryd.underlying23 rfl) ?_
  refine o_q _ rfl rfl rfl (v_move rfl rfl) ?_
  refine o_nil ?_
  repeat (first | with_reducible refine r_then ?_ | with_reducible refine r_in_normal ?_ | with_reducible refine r_sc_normal ?_)
  refine r_block ?_
  refine r_loop (ι := Nat × Cont) (fun gh => gh.1 ≤ D.paid.length ∧ firstR D gh.1 = none) (fun gh => [(1, pt b1 0), (2, i64 0), (3, i64 0), (4, pt b4 0), (5, pt lb 0), (6, .map (some sb)), (16, .slice po D.paid.length pc), (17, i64 D.paid.length), (18, i64 gh.1)]) (fun gh => mapG Tryd.prog 113 mb gh.2 :: mapG Tryd.prog 98 sb (seenC D (gh.1)) :: bx b4 30 [i64 0] :: M) (fun gh => entF D gh.2 :: boxF lb 108 [i64 D.people, .slice uo D.dues.length uc, .slice po D.paid.length pc, .map (some mb)] :: ([rowD uo 5 encD D.dues, rowD po 4 encP D.paid, rowD (some ⟨0, 0, none⟩) 1 encE ([0, 1] : List Nat)] ++ Rf)) (fun gh => D.paid.length - gh.1) (0, fun _ => none) ?_ ?_ ?_
  ·
    refine Imp.box_to b4 [i64 0] rfl ?_
    refine Imp.seen_0 (D := D) sb ?_
    exact r_here (by repeat (first | exact FSub.nil | refine FSub.cons rfl ?_)) SelMC.sel SubRC.sub
  ·
    exact ⟨Nat.zero_le _, rfl⟩
  ·
    rintro ⟨k, G⟩ hI0
    dsimp only at hI0
    dsimp only
    have hI : k ≤ D.paid.length := hI0.1
    have hfr : firstR D k = none := hI0.2
    refine r_seq ?_
    refine r_region ?_
    refine o_q _ rfl rfl rfl (v_lss rfl rfl rfl) ?_
    refine o_nil ?_
    repeat (first | with_reducible refine r_then ?_ | with_reducible refine r_in_normal ?_ | with_reducible refine r_sc_normal ?_)
    refine r_seq ?_
    first | refine r_condd rfl (fun hc19 => ?_) (fun hc19 => ?_) | refine r_cond rfl (fun hc19 => ?_) (fun hc19 => ?_)
    ·
      first
      | (exfalso; revert hc19; decide)
      | (exfalso; omega)
      | skip
        refine r_skip ?_
        repeat (first | with_reducible refine r_then ?_ | with_reducible refine r_in_normal ?_ | with_reducible refine r_sc_normal ?_)
        refine r_seq ?_
        refine r_block ?_
        refine r_seq ?_
        refine r_region ?_
        refine o_q _ rfl rfl rfl (v_move rfl rfl) ?_
        first | refine o_q _ rfl rfl rfl (v_indexAddrSn rfl Tryd.underlying23 inf54 rfl rfl rfl (by omega) rfl) ?_ | refine o_q _ rfl rfl rfl (v_indexAddrS rfl Tryd.underlying23 inf54 rfl rfl rfl (by omega) (by omega) rfl) ?_
        refine o_q _ rfl rfl rfl (v_loadEN (us := encP (D.paid.getD k default)) rfl Tryd.underlying54 rfl inf54 rfl (by omega) rfl rfl rfl) ?_
        refine o_alloc rfl inf54 rfl rfl rfl rfl rfl (fun b8 => ?_)
        refine o_q _ rfl rfl rfl (v_assign rfl rfl) ?_
        refine o_st rfl inf54 rfl rfl rfl rfl rfl rfl rfl rfl ?_
        refine o_nil ?_
        repeat (first | with_reducible refine r_then ?_ | with_reducible refine r_in_normal ?_ | with_reducible refine r_sc_normal ?_)
        refine r_seq ?_
        refine Imp.box_to b8 (encP (D.paid.getD k default)) rfl ?_
        have hok := hg.paid k (by omega)
        unfold PaidOk at hok
        have hq1 := hg.np
        obtain ⟨dk, hdk⟩ : ∃ n : Nat, (D.paid.getD k default).day = n := ⟨(D.paid.getD k default).day.toNat, by omega⟩
        obtain ⟨kl, hkl⟩ := key98_of (a := (D.paid.getD k default).who) (b := (D.paid.getD k default).day) (by omega) (by omega)
        refine r_region ?_
        first | refine o_q _ rfl rfl rfl (v_fieldAddr rfl Tryd.underlying54 inf3 rfl rfl rfl rfl) ?_ | refine o_q _ rfl rfl rfl (v_fieldAddrE rfl Tryd.underlying54 inf3 rfl rfl rfl rfl) ?_
        first | refine o_q _ rfl rfl rfl (v_ld1 rfl Tryd.underlying3 rfl rfl rfl) ?_ | refine o_q _ rfl rfl rfl (v_lf1 rfl Tryd.underlying3 rfl rfl rfl) ?_ | refine o_q _ rfl rfl rfl (v_loadE1 rfl Tryd.underlying3 rfl rfl (by omega) rfl rfl) ?_
        first | refine o_q _ rfl rfl rfl (v_fieldAddr rfl Tryd.underlying54 inf3 rfl rfl rfl rfl) ?_ | refine o_q _ rfl rfl rfl (v_fieldAddrE rfl Tryd.underlying54 inf3 rfl rfl rfl rfl) ?_
        first | refine o_q _ rfl rfl rfl (v_ld1 rfl Tryd.underlying3 rfl rfl rfl) ?_ | refine o_q _ rfl rfl rfl (v_lf1 rfl Tryd.underlying3 rfl rfl rfl) ?_ | refine o_q _ rfl rfl rfl (v_loadE1 rfl Tryd.underlying3 rfl rfl (by omega) rfl rfl) ?_
        refine o_q _ rfl rfl rfl (v_bS rfl Tryd.underlying98 inf98 plt98 rfl rfl rfl (by repeat (first | exact trivial | refine ⟨rfl, ?_⟩)) (by rfl)) ?_
        refine o_alloc rfl inf98 rfl rfl rfl rfl rfl (fun b9 => ?_)
        refine o_st rfl inf98 rfl rfl rfl rfl rfl rfl rfl rfl ?_
        refine o_nil ?_
        repeat (first | with_reducible refine r_then ?_ | with_reducible refine r_in_normal ?_ | with_reducible refine r_sc_normal ?_)
        refine r_seq ?_
        refine r_seq ?_
        obtain ⟨tw, hse, htw⟩ : ∃ r : Option Value, seenC D k (bkV (D.paid.getD k default).who (D.paid.getD k default).day) = r ∧ ((TwiceP D k ∧ r = some (.bool true)) ∨ (¬ TwiceP D k ∧ r = none)) := by
          by_cases h : TwiceP D k
          · exact ⟨_, seen_y h, .inl ⟨h, rfl⟩⟩
          · exact ⟨_, seen_n h, .inr ⟨h, rfl⟩⟩
        rcases htw with ⟨htw, rfl⟩ | ⟨htw, rfl⟩
        all_goals
        refine r_region ?_
        refine o_q _ rfl rfl rfl (v_move rfl rfl) ?_
        first | refine o_q _ rfl rfl rfl (v_ldW rfl Tryd.underlying98 rfl inf98 rfl rfl) ?_ | refine o_q _ rfl rfl rfl (v_lfW rfl Tryd.underlying98 rfl inf98 rfl rfl) ?_ | refine o_q _ rfl rfl rfl (v_lfN rfl Tryd.underlying98 rfl inf98 rfl rfl rfl) ?_ | refine o_q _ rfl rfl rfl (v_ldN rfl Tryd.underlying98 rfl inf98 rfl rfl rfl) ?_ | refine o_q _ rfl rfl rfl (v_loadEN rfl Tryd.underlying98 rfl inf98 rfl (by omega) rfl rfl rfl) ?_
        first | refine o_q _ rfl rfl rfl (v_cast (v := .bool true) (v_lookG (seenC D k) (some (.bool true)) keyLaw98 hkl rfl Tryd.underlying96 inf4 (z := .bool false) rfl hse rfl rfl) rfl) ?_ | refine o_q _ rfl rfl rfl (v_cast (v := .bool false) (v_lookG (seenC D k) none keyLaw98 hkl rfl Tryd.underlying96 inf4 (z := .bool false) rfl hse rfl rfl) rfl) ?_
        refine o_nil ?_
        repeat (first | with_reducible refine r_then ?_ | with_reducible refine r_in_normal ?_ | with_reducible refine r_sc_normal ?_)
        first | refine r_condd rfl (fun hc30 => ?_) (fun hc30 => ?_) | refine r_cond rfl (fun hc30 => ?_) (fun hc30 => ?_)
        ·
          first
          | (exfalso; revert hc30; decide)
          | (exfalso; omega)
          | skip
            refine r_seq ?_
            refine r_region ?_
            refine o_q _ rfl rfl rfl (v_move rfl rfl) ?_
            refine o_q _ rfl rfl rfl (v_assign rfl rfl) ?_
            refine o_q _ rfl rfl rfl (v_assign rfl rfl) ?_
            refine o_st rfl inf30 rfl rfl rfl rfl rfl rfl rfl rfl ?_
            refine o_nil ?_
            repeat (first | with_reducible refine r_then ?_ | with_reducible refine r_in_normal ?_ | with_reducible refine r_sc_normal ?_)
            refine r_ret ?_
            repeat (first | with_reducible refine r_then_ret ?_ | with_reducible refine r_in_ret ?_ | with_reducible refine r_sc_ret ?_)
            first
            | exact d_retv answer_ans (Rd.three rfl (RdI.tmp rfl) (RdI.tmp rfl) (RdI.cell1 Tryd.underlying30 rfl rfl rfl)) (by rw [check_hit hg hfr (by omega) (by rw [rule_1 (by assumption)]; decide), rule_1 (by assumption)]; try rfl) SelMC.sel SubRC.sub
            | exact d_retv answer_ans (Rd.three rfl (RdI.tmp rfl) (RdI.tmp rfl) (RdI.cell1 Tryd.underlying30 rfl rfl rfl)) (by rw [check_hit hg hfr (by omega) (by rw [rule_2 (by assumption) (by omega)]; decide), rule_2 (by assumption) (by omega)]; try rfl) SelMC.sel SubRC.sub
            | exact d_retv answer_ans (Rd.three rfl (RdI.tmp rfl) (RdI.tmp rfl) (RdI.cell1 Tryd.underlying30 rfl rfl rfl)) (by rw [check_none hg (by rw [show D.paid.length = k by omega]; exact hfr)]; try rfl) SelMC.sel SubRC.sub
        ·
          first
          | (exfalso; revert hc30; decide)
          | (exfalso; omega)
          | skip
            refine r_skip ?_
            repeat (first | with_reducible refine r_then ?_ | with_reducible refine r_in_normal ?_ | with_reducible refine r_sc_normal ?_)
            refine r_seq ?_
            refine r_region ?_
            refine o_q _ rfl rfl rfl (v_move rfl rfl) ?_
            first | refine o_q _ rfl rfl rfl (v_ldW rfl Tryd.underlying98 rfl inf98 rfl rfl) ?_ | refine o_q _ rfl rfl rfl (v_lfW rfl Tryd.underlying98 rfl inf98 rfl rfl) ?_ | refine o_q _ rfl rfl rfl (v_lfN rfl Tryd.underlying98 rfl inf98 rfl rfl rfl) ?_ | refine o_q _ rfl rfl rfl (v_ldN rfl Tryd.underlying98 rfl inf98 rfl rfl rfl) ?_ | refine o_q _ rfl rfl rfl (v_loadEN rfl Tryd.underlying98 rfl inf98 rfl (by omega) rfl rfl rfl) ?_
            refine o_mapUpdG (G := seenC D k) keyLaw98 hkl rfl Tryd.underlying96 rfl rfl rfl rfl rfl ?_
            refine o_nil ?_
            repeat (first | with_reducible refine r_then ?_ | with_reducible refine r_in_normal ?_ | with_reducible refine r_sc_normal ?_)
            refine r_seq ?_
            refine r_region ?_
            refine o_q _ rfl rfl rfl (v_move rfl rfl) ?_
            first | refine o_q _ rfl rfl rfl (v_fieldAddr rfl Tryd.underlying54 inf3 rfl rfl rfl rfl) ?_ | refine o_q _ rfl rfl rfl (v_fieldAddrE rfl Tryd.underlying54 inf3 rfl rfl rfl rfl) ?_
            first | refine o_q _ rfl rfl rfl (v_ld1 rfl Tryd.underlying3 rfl rfl rfl) ?_ | refine o_q _ rfl rfl rfl (v_lf1 rfl Tryd.underlying3 rfl rfl rfl) ?_ | refine o_q _ rfl rfl rfl (v_loadE1 rfl Tryd.underlying3 rfl rfl (by omega) rfl rfl) ?_
            first | refine o_q _ rfl rfl rfl (v_fieldAddr rfl Tryd.underlying54 inf3 rfl rfl rfl rfl) ?_ | refine o_q _ rfl rfl rfl (v_fieldAddrE rfl Tryd.underlying54 inf3 rfl rfl rfl rfl) ?_
            first | refine o_q _ rfl rfl rfl (v_ld1 rfl Tryd.underlying3 rfl rfl rfl) ?_ | refine o_q _ rfl rfl rfl (v_lf1 rfl Tryd.underlying3 rfl rfl rfl) ?_ | refine o_q _ rfl rfl rfl (v_loadE1 rfl Tryd.underlying3 rfl rfl (by omega) rfl rfl) ?_
            refine o_fnX (both_s D uo po uc pc lb mb G (D.paid.getD k default).who dk hg (by omega) (by omega)) rfl (by rw [hdk]; rfl) rfl rfl rfl SubRC.sub (fun x40 _ => ?_)
            refine o_q _ rfl rfl rfl (v_move rfl rfl) ?_
            refine o_q _ rfl rfl rfl (v_extract rfl rfl rfl) ?_
            refine o_q _ rfl rfl rfl (v_extract rfl rfl rfl) ?_
            refine o_alloc rfl inf77 rfl rfl rfl rfl rfl (fun b10 => ?_)
            refine o_alloc rfl inf77 rfl rfl rfl rfl rfl (fun b11 => ?_)
            refine o_st rfl inf77 rfl rfl rfl rfl rfl rfl rfl rfl ?_
            refine o_st rfl inf77 rfl rfl rfl rfl rfl rfl rfl rfl ?_
            refine o_nil ?_
            repeat (first | with_reducible refine r_then ?_ | with_reducible refine r_in_normal ?_ | with_reducible refine r_sc_normal ?_)
            refine r_seq ?_
            refine Imp.box_to b11 [.slice x40.2.2.1 (progA D 1 (D.paid.getD k default).who (dk + 1)).1.length x40.2.2.2, i64 (progA D 1 (D.paid.getD k default).who (dk + 1)).2] rfl ?_
            have hwa : worstA D k = (progA D 1 (D.paid.getD k default).who (dk + 1)).2 := by rw [worstA, hdk]; rfl
            refine r_region ?_
            first | refine o_q _ rfl rfl rfl (v_fieldAddr rfl Tryd.underlying77 inf75 rfl rfl rfl rfl) ?_ | refine o_q _ rfl rfl rfl (v_fieldAddrE rfl Tryd.underlying77 inf75 rfl rfl rfl rfl) ?_
            first | refine o_q _ rfl rfl rfl (v_ld1 rfl Tryd.underlying75 rfl rfl rfl) ?_ | refine o_q _ rfl rfl rfl (v_lf1 rfl Tryd.underlying75 rfl rfl rfl) ?_ | refine o_q _ rfl rfl rfl (v_loadE1 rfl Tryd.underlying75 rfl rfl (by omega) rfl rfl) ?_
            refine o_q _ rfl rfl rfl (v_gtr rfl rfl rfl) ?_
            refine o_nil ?_
            repeat (first | with_reducible refine r_then ?_ | with_reducible refine r_in_normal ?_ | with_reducible refine r_sc_normal ?_)
            first | refine r_condd rfl (fun hc45 => ?_) (fun hc45 => ?_) | refine r_cond rfl (fun hc45 => ?_) (fun hc45 => ?_)
            ·
              first
              | (exfalso; revert hc45; decide)
              | (exfalso; omega)
              | skip
                refine r_seq ?_
                refine r_region ?_
                refine o_q _ rfl rfl rfl (v_move rfl rfl) ?_
                refine o_q _ rfl rfl rfl (v_assign rfl rfl) ?_
                refine o_q _ rfl rfl rfl (v_assign rfl rfl) ?_
                refine o_st rfl inf30 rfl rfl rfl rfl rfl rfl rfl rfl ?_
                refine o_nil ?_
                repeat (first | with_reducible refine r_then ?_ | with_reducible refine r_in_normal ?_ | with_reducible refine r_sc_normal ?_)
                refine r_ret ?_
                repeat (first | with_reducible refine r_then_ret ?_ | with_reducible refine r_in_ret ?_ | with_reducible refine r_sc_ret ?_)
                first
                | exact d_retv answer_ans (Rd.three rfl (RdI.tmp rfl) (RdI.tmp rfl) (RdI.cell1 Tryd.underlying30 rfl rfl rfl)) (by rw [check_hit hg hfr (by omega) (by rw [rule_1 (by assumption)]; decide), rule_1 (by assumption)]; try rfl) SelMC.sel SubRC.sub
                | exact d_retv answer_ans (Rd.three rfl (RdI.tmp rfl) (RdI.tmp rfl) (RdI.cell1 Tryd.underlying30 rfl rfl rfl)) (by rw [check_hit hg hfr (by omega) (by rw [rule_2 (by assumption) (by omega)]; decide), rule_2 (by assumption) (by omega)]; try rfl) SelMC.sel SubRC.sub
                | exact d_retv answer_ans (Rd.three rfl (RdI.tmp rfl) (RdI.tmp rfl) (RdI.cell1 Tryd.underlying30 rfl rfl rfl)) (by rw [check_none hg (by rw [show D.paid.length = k by omega]; exact hfr)]; try rfl) SelMC.sel SubRC.sub
            ·
              first
              | (exfalso; revert hc45; decide)
              | (exfalso; omega)
              | skip
                refine r_skip ?_
                repeat (first | with_reducible refine r_then ?_ | with_reducible refine r_in_normal ?_ | with_reducible refine r_sc_normal ?_)
                refine r_region ?_
                refine o_q _ rfl rfl rfl (v_add rfl rfl rfl (by omega)) ?_
                refine o_q _ rfl rfl rfl (v_move rfl rfl) ?_
                refine o_nil ?_
                repeat (first | with_reducible refine r_then ?_ | with_reducible refine r_in_normal ?_ | with_reducible refine r_sc_normal ?_)
                first
                | exact r_next ((k + 1, x40.1)) (by refine Imp.seen_s (D := D) (k := k) sb ?_; exact r_here (by repeat (first | exact FSub.nil | refine FSub.cons rfl ?_)) SelMC.sel SubRC.sub) (by exact ⟨by omega, firstR_n hfr (rule_0 (by assumption) (by omega))⟩) (by (show D.paid.length - (k + 1) < D.paid.length - k; omega))
    ·
      first
      | (exfalso; revert hc19; decide)
      | (exfalso; omega)
      | skip
        refine r_exit ?_
        repeat (first | with_reducible refine r_then_exit ?_ | with_reducible refine r_sc_exit ?_ | with_reducible refine r_in_here ?_ | (with_reducible refine r_in_past (by decide) ?_) | with_reducible refine r_then ?_ | with_reducible refine r_in_normal ?_ | with_reducible refine r_sc_normal ?_)
        refine r_seq ?_
        refine r_region ?_
        refine o_q _ rfl rfl rfl (v_assign rfl rfl) ?_
        refine o_q _ rfl rfl rfl (v_assign rfl rfl) ?_
        refine o_st rfl inf30 rfl rfl rfl rfl rfl rfl rfl rfl ?_
        refine o_nil ?_
        repeat (first | with_reducible refine r_then ?_ | with_reducible refine r_in_normal ?_ | with_reducible refine r_sc_normal ?_)
        refine r_ret ?_
        repeat (first | with_reducible refine r_then_ret ?_ | with_reducible refine r_in_ret ?_ | with_reducible refine r_sc_ret ?_)
        first
        | exact d_retv answer_ans (Rd.three rfl (RdI.tmp rfl) (RdI.tmp rfl) (RdI.cell1 Tryd.underlying30 rfl rfl rfl)) (by rw [check_hit hg hfr (by omega) (by rw [rule_1 (by assumption)]; decide), rule_1 (by assumption)]; try rfl) SelMC.sel SubRC.sub
        | exact d_retv answer_ans (Rd.three rfl (RdI.tmp rfl) (RdI.tmp rfl) (RdI.cell1 Tryd.underlying30 rfl rfl rfl)) (by rw [check_hit hg hfr (by omega) (by rw [rule_2 (by assumption) (by omega)]; decide), rule_2 (by assumption) (by omega)]; try rfl) SelMC.sel SubRC.sub
        | exact d_retv answer_ans (Rd.three rfl (RdI.tmp rfl) (RdI.tmp rfl) (RdI.cell1 Tryd.underlying30 rfl rfl rfl)) (by rw [check_none hg (by rw [show D.paid.length = k by omega]; exact hfr)]; try rfl) SelMC.sel SubRC.sub
theorem check28_v (hl1 : D.dues.length ≤ 40) (hl2 : D.paid.length ≤ 40) : FnV Tryd.prog 28 [valD D uo po uc pc] [rowD uo 5 encD D.dues, rowD po 4 encP D.paid, rowD (some ⟨0, 0, none⟩) 1 encE ([0, 1] : List Nat)] (.tuple #[i64 (checkB D).1.1, i64 (checkB D).1.2, i64 (checkB D).2]) := by
  by_cases hg : GoodD D
  · exact check28_ok D uo po uc pc hl1 hl2 hg
  · exact check28_x D uo po uc pc hl1 hl2 hg
end Go.Proofs.YtpfgiednfjfdmaaDoor


namespace Go.G
variable {P : Program} {W : World} {n : Nat} {D : List Deferred} {L : Tm} {M : List Res} {R : List Fact} {Q : Exit → Act → World → Prop} {o : Oper} {Z : World → Prop}
theorem r_parPZ {id : Nat} {l0 l : List Oper} (σ : List Nat) (hpm : permB σ l0 = true) (hl0 : permL σ l0 = l) (Z : World → Prop) (hZ : ∀ X F w, St W (X ++ M) (F ++ R) w → Z w) (fl : List Nat) (m : Nat) (hml : Nat.ble m l.length = true) (hns : Region.noSelect l.toArray = true) (hbk : backB l = true) (htl : tailF fl (masks l []) m l.length = true) (hfs : freesB l fl = true)
    (hm : P.follows .mixedOrders = true) (hpb : parB ((floatL fl m l).take m) ((floatL fl m l).drop m) = true) (hfr : freshB L ((floatL fl m l).take m) = true)
    (h : ParO P W n M R (floatL fl m l).toArray (fun ss => FlZ Z P n L ((floatL fl m l).take m) ss fl ∧ preOf ss = [] ∧ lateX (floatL fl m l).toArray ss = true ∧ Fin W n D (wpListZ Z P (floatL fl m l).toArray (NoP Q) ((floatL fl m l).drop m)) ((floatL fl m l).take m) ss L M R) ((floatL fl m l).take m) [] L) : Imp W n D L M R ((Code.region id l0.toArray true).wp P Q) := by
  have hml : m ≤ l.length := by simpa using hml
  intro a w h1 h2 h3
  refine Code.wp_mono (Q := NoP Q) (fun e a' w' he => ?_) ?_
  · cases e with
    | normal => exact he
    | _ => exact he.elim
  refine wp_region_any hm ?_
  have hpk := permOK_of hpm
  have hsz : l0.length = l.length := by rw [← hl0, permL_len, hpk.len]
  rw [show l0.toArray.size = l.toArray.size by simpa using hsz]
  refine perm_any hpk _ _ (Array.replicate l.toArray.size false) _ _ ⟨by simp [hpk.len, hsz], by simp [hpk.len, hsz], fun k i hk d => ?_⟩ ?_
  · have h1 : k < l.length := by rw [← hsz, ← hpk.len]; exact (List.getElem?_eq_some_iff.1 hk).1
    have h2 : i < l.length := by rw [← hsz]; exact (hpk.inv k i hk).1
    simp [h1, h2]
  rw [hl0]
  obtain ⟨ss, hl, ⟨hsi, hpre, hlx, hfin⟩, hs⟩ := ParO.out ((floatL fl m l).take m) [] L h
  rw [List.nil_append] at hsi hpre hlx hfin
  have hLB : lateB (floatL fl m l).toArray ss 0 ss = true := by simp only [lateX, Bool.and_eq_true] at hlx; exact hlx.1
  have hlk : ∀ o ∈ (floatL fl m l).take m, look L (o.dst.getD 1000000) = none := fun o ho => by
    have := List.all_eq_true.1 hfr o ho
    simpa using this
  refine (floatZ_all hZ hml hpb hl hlk (lateOK_of hLB) (fun k s c e1 e2 => (lateX_ab hlx k s c e1 e2).elim) (fun k o s e1 e2 => by
    have := hs k o s e1 e2
    rw [List.nil_append, List.length_nil, Nat.zero_add] at this
    exact this) hfin hsi hns hbk htl hfs _ _ _ _ ⟨?_, ?_, ?_, h1, h2, fun _ => undef, ?_, ?_⟩ ?_).any
  · simp [floatL_len]
  · intro j o _ hj
    rw [rep_false] at hj; cases hj
  · intro t _ ht
    have : t < l.length := by simpa [floatL_len] using ht
    simp [this]
  · intro i o s e1 _ hj
    rw [rep_false] at hj; cases hj
  · have e1 : resOf ss (Array.replicate l.toArray.size false) (fun _ => undef) ((floatL fl m l).take m).length = [] := by
      rw [← hpre, ← preOf_range, hl]
      refine flatMap_same _ _ _ fun j hj => ?_
      rw [rep_false]; rfl
    have e2 : ∀ k, fctOf ss (Array.replicate l.toArray.size false) (fun _ => undef) k = [] := by
      intro k
      unfold fctOf
      induction k with
      | zero => rfl
      | succ k ih => rw [List.range_succ, List.flatMap_append, ih, List.nil_append, List.flatMap_cons, List.flatMap_nil, List.append_nil, rep_false]; rfl
    rw [e1, e2]
    exact h3.heap rfl rfl rfl rfl
  · have := unl_tail (N := l.length) (m := 0) (listed := Array.replicate l.length false) (fun i hi => by omega)
    simpa using this
theorem float_addZ {t u : TypeId} {x y : Operand} {b c : Int} (ho : o.op = .binOp .add t x y u) (hx : ev L x = some (.int .i64 b)) (hy : ev L y = some (.int .i64 c)) (h : -9223372036854775808 ≤ b + c ∧ b + c ≤ 9223372036854775807) : ∀ a, FSat n L a → ∀ w, Z w → (execOp a.eval o).run P w = .ok (.value (.int .i64 (b + c))) w := fun a h1 w _ => float_add ho hx hy h a h1 w
theorem float_shlU {t u : TypeId} {x y : Operand} {h m : Nat} (ho : o.op = .binOp .shl t x y u) (hx : ev L x = some (.int .u64 1)) (hy : ev L y = some (.int .i64 (h : Int))) (hh : h < 62) (hm : m = 2 ^ h) : ∀ a, FSat n L a → ∀ w, Z w → (execOp a.eval o).run P w = .ok (.value (.int .u64 (m : Int))) w := fun f h1 w _ => by
    have h2 : ¬ ((h : Int) < 0) := by omega
    have h3 : min h 64 = h := by omega
    have h4 : (2 : Nat) ^ h ≤ 2 ^ 61 := Nat.pow_le_pow_right (by omega) (by omega)
    have hw : IntKind.wrap .u64 (m : Int) = (m : Int) := u64_small (by rw [hm]; omega)
    have e : (1 : Int) * 2 ^ (min (h : Int).toNat IntKind.u64.bits) = (m : Int) := by
      rw [show (h : Int).toNat = h from by simp, show IntKind.u64.bits = 64 from rfl, h3, hm]
      simp
    have hs : (Op.shift .shl .u64 1 .i64 (h : Int)).run P w = .ok (.int .u64 (m : Int)) w := by
      unfold Op.shift
      rw [if_neg h2]
      simp only [e, hw, Sem.run_pure]
    have hb : (binOp .shl t (.int .u64 1) (.int .i64 (h : Int))).run P w = .ok (.int .u64 (m : Int)) w := hs
    simp [execOp, ho, h1.ev hx, h1.ev hy, eqGuard, hb]
theorem float_orU {t u : TypeId} {x y : Operand} {a b : Nat} (ho : o.op = .binOp .or t x y u) (hx : ev L x = some (.int .u64 (a : Int))) (hy : ev L y = some (.int .u64 (b : Int))) (ha : a < 2 ^ 62) (hb : b < 2 ^ 62) : ∀ f, FSat n L f → ∀ w, Z w → (execOp f.eval o).run P w = .ok (.value (.int .u64 ((a ||| b : Nat) : Int))) w := fun f h1 w _ => by
    have hlt : a ||| b < 2 ^ 62 := Nat.or_lt_two_pow ha hb
    have hw : IntKind.wrap .u64 ((a ||| b : Nat) : Int) = ((a ||| b : Nat) : Int) := u64_small (by omega)
    have hs : (Op.intBits .or .u64 (a : Int) (b : Int)).run P w = .ok (.int .u64 ((a ||| b : Nat) : Int)) w := by
      unfold Op.intBits
      have e1 : (BitVec.ofInt IntKind.u64.bits (a : Int) ||| BitVec.ofInt IntKind.u64.bits (b : Int)).toNat = a ||| b := by
        have h64 : IntKind.u64.bits = 64 := rfl
        rw [BitVec.toNat_or]
        simp only [BitVec.ofInt_natCast, BitVec.toNat_ofNat, h64]
        rw [Nat.mod_eq_of_lt (by omega), Nat.mod_eq_of_lt (by omega)]
      simp only [e1, hw, Sem.run_pure]
    have hb2 : (binOp .or t (.int .u64 (a : Int)) (.int .u64 (b : Int))).run P w = .ok (.int .u64 ((a ||| b : Nat) : Int)) w := hs
    simp [execOp, ho, h1.ev hx, h1.ev hy, eqGuard, hb2]
theorem v_orU {t u : TypeId} {x y : Operand} {a b : Nat} (ho : o.op = .binOp .or t x y u) (hx : ev L x = some (.int .u64 (a : Int))) (hy : ev L y = some (.int .u64 (b : Int))) (ha : a < 2 ^ 62) (hb : b < 2 ^ 62) : OpQ P W n L M R o (.int .u64 ((a ||| b : Nat) : Int)) :=
  OpQ.of_value fun f w h1 _ => float_orU (Z := fun _ => True) ho hx hy ha hb f h1 w trivial
/-- A call through a function's value, of one that takes a resource. -/
theorem o_fnXV {α : Type} {M1 : List Res} {ops : Array Oper} {rest : List Oper} {k : FuncId} {args : List Value} {R0 : List Fact} {r : Res} {g : α → Value} {Pp : α → Prop} {Mr : α → Res} {Rr : α → List Fact} {f : Operand} {xs : List Operand} {ts : Array TypeId} {vs : List Value} {d : Nat} [hM : DelC M r M1] (captured : List Value)
    (h : FnS P k args [r] R0 (fun e M' R' => ∃ x, e = .returned (g x) ∧ Pp x ∧ M' = [Mr x] ∧ R' = Rr x)) (ho : o.op = .call { callee := .value f, args := xs.toArray, argTypes := ts }) (hf : ev L f = some (.func (.func k) #[] captured.toArray))
    (hx : evs L xs = some vs) (ha : vs ++ captured = args) (hg : o.guard = none) (hdst : o.dst = some d) (hd : Nat.blt d n = true) (hs : SubR R R0)
    (hret : ∀ x, Pp x → Imp W n D ((d, g x) :: L) (Mr x :: M1) (Rr x ++ R) (wpList P ops Q rest)) : Imp W n D L M R (wpList P ops Q (o :: rest)) := by
  refine o_call h ho [] captured hf hx (by simpa using ha) hg (by simp [okD, hdst, hd]) (Mf := M1) ⟨[], by simpa using hM.del.perm⟩ hs ?_ ?_ ?_
  · rintro v M' R' ⟨x, he, hp, rfl, rfl⟩
    cases he
    rw [hdst]
    exact hret x hp
  · rintro c M' R' ⟨x, he, _⟩; cases he
  · rintro M' R' ⟨x, he, _⟩; cases he
/-- What is owned and is not empty lies in a box. -/
theorem Imp.unownB {α : Type} {enc : α → List Value} {sz : Nat} {T : TypeId} {xs : List α} {M' : List Res} {X : Act → World → Prop} (v : Value) [hd : HasOwn v M T sz enc xs M'] (hne : 0 < xs.length)
    (h : ∀ (b cap : Nat) (sp : List Value), v = .slice (some ⟨b, 0, none⟩) xs.length cap → Imp W n D L (bx b T (xs.flatMap enc ++ sp) :: M') R X) : Imp W n D L M R X := by
  intro a w h1 h2 h3
  have h4 : St W (ownL v T sz enc xs :: M') R w := h3.perm hd.del.perm
  obtain ⟨s, ⟨s1, s2, rfl, hs1, hM⟩, hO, hR⟩ := h4.mem
  obtain ⟨hl, ⟨_, e, _⟩ | ⟨b, cap, C, e, _, _, hC, ht, rfl⟩⟩ := hs1
  · omega
  · refine h b cap (C.toList.drop (xs.length * sz)) e a w h1 h2 ⟨h4.os, h4.tape, h4.output, [(b, .cells C T (0, 0))] ++ s2, ⟨_, s2, rfl, ?_, hM⟩, hO, hR⟩
    show [(b, Obj.cells C T (0, 0))] = [(b, Obj.cells (xs.flatMap enc ++ C.toList.drop (xs.length * sz)).toArray T (0, 0))]
    rw [← ht, List.take_append_drop]
end Go.G

