/- Part 5 of 5 of what the proofs of this seat stand on: a small logic for walks, what the functions come to, and the walks themselves. No condition of its own. -/
import Derived.Test.YtpndeonmmcaikaaGreatM4
import Derived.Test.YtpndeonmmcaikaaGreatM2
import Derived.Test.YtpndeonmmcaikaaGreatM1
import Derived.Test.YtpndeonmmcaikaaGreatM3
import Derived.Test.YtpndeonmmcaikaaGreatRows
set_option linter.unusedVariables false
set_option linter.unusedSimpArgs false
set_option linter.unusedSectionVars false
namespace Go.Proofs.YtpndeonmmcaikaaGreat.DrW
open Go.G Foot4 Drain7
set_option maxRecDepth 1000000
attribute [local irreducible] G.ParO G.Fin
def frmL (B : Bk) (s : Nat) : List Lease → Lin → List Lin
  | [], x => if RightX B x s then [x] else []
  | le :: ls, x => (List.range (le.fhi - le.flo + 1).toNat).flatMap fun a : Nat => (List.range (le.thi - le.tlo + 1).toNat).flatMap fun b : Nat => if le.flo + (a : Int) < le.tlo + (b : Int) then frmL B s ls ⟨x.f ++ [le.flo + (a : Int)], x.t ++ [le.tlo + (b : Int)]⟩ else []
def innL (B : Bk) (s : Nat) (x : Lin) (n a b : Nat) : List Lin := if (B.leases.getD n default).flo + (a : Int) < (B.leases.getD n default).tlo + (b : Int) then frmL B s (B.leases.drop (n + 1)) ⟨x.f ++ [(B.leases.getD n default).flo + (a : Int)], x.t ++ [(B.leases.getD n default).tlo + (b : Int)]⟩ else []
def preI (B : Bk) (s : Nat) (x : Lin) (n a : Nat) : Nat → List Lin
  | 0 => []
  | b + 1 => preI B s x n a b ++ innL B s x n a b
def cntT (B : Bk) (n : Nat) : Nat := ((B.leases.getD n default).thi - (B.leases.getD n default).tlo + 1).toNat
def cntF (B : Bk) (n : Nat) : Nat := ((B.leases.getD n default).fhi - (B.leases.getD n default).flo + 1).toNat
def preO (B : Bk) (s : Nat) (x : Lin) (n : Nat) : Nat → List Lin
  | 0 => []
  | a + 1 => preO B s x n a ++ preI B s x n a (cntT B n)
theorem frm_split {B : Bk} {s : Nat} {x : Lin} {n : Nat} (h : n < B.leases.length) : frmL B s (B.leases.drop n) x = preO B s x n (cntF B n) := by
  rw [drop_consD h]
  refine range_flatD _ (preO B s x n) rfl (fun a => ?_) _
  show preO B s x n a ++ preI B s x n a (cntT B n) = _
  congr 1
  exact (range_flatD _ (preI B s x n a) rfl (fun b => rfl) _).symm
theorem frm_end {B : Bk} {s : Nat} {x : Lin} {n : Nat} (h : B.leases.length ≤ n) : frmL B s (B.leases.drop n) x = if RightX B x s then [x] else [] := by
  rw [List.drop_eq_nil_of_le h]; rfl
theorem innL_y {B : Bk} {s : Nat} {x : Lin} {n a b : Nat} (h : (B.leases.getD n default).flo + (a : Int) < (B.leases.getD n default).tlo + (b : Int)) : innL B s x n a b = frmL B s (B.leases.drop (n + 1)) ⟨x.f ++ [(B.leases.getD n default).flo + (a : Int)], x.t ++ [(B.leases.getD n default).tlo + (b : Int)]⟩ := if_pos h
theorem innL_n {B : Bk} {s : Nat} {x : Lin} {n a b : Nat} (h : ¬ (B.leases.getD n default).flo + (a : Int) < (B.leases.getD n default).tlo + (b : Int)) : innL B s x n a b = [] := if_neg h
structure XA where
  x : Lin
  fo : Option Addr
  to_ : Option Addr
  fc : Nat
  tc : Nat
instance : Inhabited XA := ⟨⟨⟨[], []⟩, none, none, 0, 0⟩⟩
def encXA (a : XA) : List Value := [.slice a.fo a.x.f.length a.fc, .slice a.to_ a.x.t.length a.tc]
theorem encXA_len (a : XA) : (encXA a).length = 2 := rfl
def rowsX (l : List XA) : Fact := fun V => ∀ a ∈ l, rowD a.fo 1 encI a.x.f V ∧ rowD a.to_ 1 encI a.x.t V
theorem rowsX_nil (V : View) : rowsX [] V := fun a h => by simp at h
theorem rowsX_app {l : List XA} {a : XA} {V : View} (h : rowsX l V) (h1 : rowD a.fo 1 encI a.x.f V) (h2 : rowD a.to_ 1 encI a.x.t V) : rowsX (l ++ [a]) V := fun b hb => by
  rcases List.mem_append.1 hb with hb | hb
  · exact h b hb
  · have : b = a := by simpa using hb
    subst this; exact ⟨h1, h2⟩
variable (B : Bk) (lo mo : Option Addr) (lc mc : Nat)
set_option maxHeartbeats 4000000 in
theorem from_0 (s : Nat) (hs : s ≤ 1048576) (hg : GoodK B) (x : Lin) (fo to_ : Option Addr) (fc tc : Nat) (v : Value) (xs : List XA) (hf : x.f.length = B.leases.length) (ht : x.t.length = B.leases.length) (hbd : xs.length + 9 ^ (0) ≤ 100000) : FnS Tryz.prog 92 [valK B lo mo lc mc, valX x fo to_ fc tc, i64 (s : Int), v] [ownL v 41 2 encXA xs] [rowsX xs, rowD lo 5 encLe B.leases, rowD mo 2 encMk B.marks, rowD fo 1 encI x.f, rowD to_ 1 encI x.t] (fun e M' R' => ∃ y : Value × List XA, e = .returned y.1 ∧ (y.2.map XA.x = xs.map XA.x ++ frmL B s (B.leases.drop (B.leases.length)) (x) ∧ y.2.length ≤ xs.length + 9 ^ (0)) ∧ M' = [ownL y.1 41 2 encXA y.2] ∧ R' = [rowsX y.2]) := by
 refine FnS.intro1 Tryz.call92 Tryz.func92 rfl Tryz.ntmps92 rfl ?_; intro W M Rf; refine r_seq ?_; obtain ⟨_, _, hl4, _, _, _⟩ := id hg; refine r_region ?_; refine o_boxA rfl rfl rfl rfl rfl (fun b4 => ?_); refine o_boxA rfl rfl rfl rfl rfl (fun b5 => ?_); refine q_as rfl rfl rfl rfl rfl ?_; refine o_nil (r_then (r_seq (r_region ?_))); refine o_q _ rfl rfl rfl (v_fieldAddr rfl Tryz.underlying41 inf39 rfl rfl rfl rfl) ?_; refine o_q _ rfl rfl rfl (v_ld1 rfl Tryz.underlying39 rfl rfl rfl) ?_; refine o_q _ rfl rfl rfl (v_len rfl rfl Tryz.underlying39 rfl) ?_; refine q_as rfl rfl rfl rfl rfl ?_; refine o_nil (r_then (r_seq ?_)); refine r_seq (r_region ?_); refine q_mv rfl rfl rfl rfl rfl ?_; refine o_q _ rfl rfl rfl (v_fieldAddr rfl Tryz.underlying25 inf22 rfl rfl rfl rfl) ?_; refine o_q _ rfl rfl rfl (v_ld1 rfl Tryz.underlying22 rfl rfl rfl) ?_; refine o_q _ rfl rfl rfl (v_len rfl rfl Tryz.underlying22 rfl) ?_; refine o_q _ rfl rfl rfl (v_eql rfl rfl rfl) ?_; refine o_nil (r_then ?_); refine r_condd rfl (fun hc20 => ?_) (fun hc20 => ?_)
 ·
  refine r_seq ?_; refine r_seq (r_region ?_); refine o_q _ rfl rfl rfl (v_ldW rfl Tryz.underlying25 rfl inf25 rfl rfl) ?_; refine o_q _ rfl rfl rfl (v_ldW rfl Tryz.underlying41 rfl inf41 rfl rfl) ?_; refine q_mv rfl rfl rfl rfl rfl ?_; refine o_q _ rfl rfl rfl (OpQ.fn (right01_v B lo mo lc mc x fo to_ fc tc hg hf ht s hs) rfl rfl SubRC.sub) ?_; refine o_nil (r_then ?_); refine r_condd rfl (fun hc24 => ?_) (fun hc24 => ?_)
  ·
   refine Imp.own_is v (fun hv9 => ?_); obtain ⟨oav, cpv, rfl⟩ := hv9; refine r_region ?_; refine q_mv rfl rfl rfl rfl rfl ?_; refine o_q _ rfl rfl rfl (v_ldW rfl Tryz.underlying41 rfl inf41 rfl rfl) ?_; refine o_lit rfl Tryz.underlying35 inf41 rfl rfl rfl rfl rfl rfl rfl rfl (by repeat (first | exact trivial | refine ⟨rfl, ?_⟩)) (by rfl) (fun b27 => ?_); refine o_app1 ((⟨x, fo, to_, fc, tc⟩ : XA)) rfl Tryz.underlying35 inf41 rfl (by rfl) (by rfl) rfl rfl rfl rfl rfl (by rfl) (by rfl) (by rfl) (by first | omega | (constructor <;> first | omega | decide)) (fun v28 => ?_); refine q_as rfl rfl rfl rfl rfl ?_; refine o_nil (r_then (r_seq (r_region ?_))); refine q_mv rfl rfl rfl rfl rfl ?_; refine q_as rfl rfl rfl rfl rfl ?_; refine o_nil (r_then ?_); refine r_ret ?_; (with_reducible refine r_then_ret ?_)
   (refine Imp.derive (ψ := rowsX (xs ++ [⟨x, fo, to_, fc, tc⟩])) ?_ (fun V hV => rowsX_app (hV _ (InR.mem (φ := rowsX xs))) (hV _ (InR.mem (φ := rowD fo 1 encI x.f))) (hV _ (InR.mem (φ := rowD to_ 1 encI x.t)))); exact r_rete [ownL v28 41 2 encXA (xs ++ [⟨x, fo, to_, fc, tc⟩])] [rowsX (xs ++ [⟨x, fo, to_, fc, tc⟩])] (Rd.tmp rfl rfl) ⟨(v28, xs ++ [⟨x, fo, to_, fc, tc⟩]), rfl, ⟨by rw [frm_end (by omega), if_pos (by assumption)]; simp, by simp only [List.length_append, List.length_cons, List.length_nil]; omega⟩, rfl, rfl⟩ SelMC.sel SubRC.sub)
  ·
   refine r_skip (r_then (r_seq (r_region ?_))); refine q_mv rfl rfl rfl rfl rfl ?_; refine q_as rfl rfl rfl rfl rfl ?_; refine o_nil (r_then ?_); refine r_ret ?_; (with_reducible refine r_then_ret ?_); exact r_rete [ownL v 41 2 encXA xs] [rowsX xs] (Rd.tmp rfl rfl) ⟨(v, xs), rfl, ⟨by rw [frm_end (by omega), if_neg (by assumption)]; simp, by show xs.length ≤ xs.length + _; omega⟩, rfl, rfl⟩ SelMC.sel SubRC.sub
 ·
  (exfalso; omega)
set_option maxHeartbeats 4000000 in
theorem from_s (s : Nat) (hs : s ≤ 1048576) (hg : GoodK B) (x : Lin) (fo to_ : Option Addr) (fc tc : Nat) (v : Value) (xs : List XA) (n r : Nat) (hn : n < B.leases.length) (hf : x.f.length = n) (ht : x.t.length = n) (hbd : xs.length + 9 ^ (r + 1) ≤ 100000) (ih : ∀ (x : Lin) (fo to_ : Option Addr) (fc tc : Nat) (v : Value) (xs : List XA), x.f.length = n + 1 → x.t.length = n + 1 → xs.length + 9 ^ r ≤ 100000 → FnS Tryz.prog 92 [valK B lo mo lc mc, valX x fo to_ fc tc, i64 (s : Int), v] [ownL v 41 2 encXA xs] [rowsX xs, rowD lo 5 encLe B.leases, rowD mo 2 encMk B.marks, rowD fo 1 encI x.f, rowD to_ 1 encI x.t] (fun e M' R' => ∃ y : Value × List XA, e = .returned y.1 ∧ (y.2.map XA.x = xs.map XA.x ++ frmL B s (B.leases.drop (n + 1)) (x) ∧ y.2.length ≤ xs.length + 9 ^ (r)) ∧ M' = [ownL y.1 41 2 encXA y.2] ∧ R' = [rowsX y.2])) : FnS Tryz.prog 92 [valK B lo mo lc mc, valX x fo to_ fc tc, i64 (s : Int), v] [ownL v 41 2 encXA xs] [rowsX xs, rowD lo 5 encLe B.leases, rowD mo 2 encMk B.marks, rowD fo 1 encI x.f, rowD to_ 1 encI x.t] (fun e M' R' => ∃ y : Value × List XA, e = .returned y.1 ∧ (y.2.map XA.x = xs.map XA.x ++ frmL B s (B.leases.drop (n)) (x) ∧ y.2.length ≤ xs.length + 9 ^ (r + 1)) ∧ M' = [ownL y.1 41 2 encXA y.2] ∧ R' = [rowsX y.2]) := by
 refine FnS.intro1 Tryz.call92 Tryz.func92 rfl Tryz.ntmps92 rfl ?_; intro W M Rf; refine r_seq ?_; obtain ⟨_, _, hl4, _, hle, _⟩ := id hg; obtain ⟨hlh, hlf, hlt, _⟩ := hle n hn; unfold SpanK at hlf hlt; have hcf : cntF B n = ((B.leases.getD n default).fhi - (B.leases.getD n default).flo + 1).toNat := rfl; have hct : cntT B n = ((B.leases.getD n default).thi - (B.leases.getD n default).tlo + 1).toNat := rfl; refine r_region ?_; refine o_boxA rfl rfl rfl rfl rfl (fun b4 => ?_); refine o_boxA rfl rfl rfl rfl rfl (fun b5 => ?_); refine q_as rfl rfl rfl rfl rfl ?_; refine o_nil (r_then (r_seq ?_)); refine Imp.box_to b4 (cellsK B lo mo lc mc) rfl ?_; refine Imp.box_to b5 [.slice fo x.f.length fc, .slice to_ x.t.length tc] rfl ?_; refine Imp.sealB b4 ?_; refine Imp.sealB b5 ?_; refine r_region ?_; refine o_q _ rfl rfl rfl (v_fieldAddr rfl Tryz.underlying41 inf39 rfl rfl rfl rfl) ?_; refine o_q _ rfl rfl rfl (v_lf1 rfl Tryz.underlying39 rfl rfl rfl) ?_; refine o_q _ rfl rfl rfl (v_cast (v := i64 (n : Int)) (v_len rfl rfl Tryz.underlying39 rfl) (congrArg (Value.int .i64) (by omega))) ?_; refine q_as rfl rfl rfl rfl rfl ?_; refine o_nil (r_then (r_seq ?_)); refine r_seq (r_region ?_); refine q_mv rfl rfl rfl rfl rfl ?_; refine o_q _ rfl rfl rfl (v_fieldAddr rfl Tryz.underlying25 inf22 rfl rfl rfl rfl) ?_; refine o_q _ rfl rfl rfl (v_lf1 rfl Tryz.underlying22 rfl rfl rfl) ?_; refine o_q _ rfl rfl rfl (v_len rfl rfl Tryz.underlying22 rfl) ?_; refine o_q _ rfl rfl rfl (v_eql rfl rfl rfl) ?_; refine o_nil (r_then ?_); refine r_condd rfl (fun hc20 => ?_) (fun hc20 => ?_)
 ·
  (exfalso; omega)
 ·
  refine r_skip (r_then (r_seq (r_region ?_))); refine o_q _ rfl rfl rfl (v_fieldAddr rfl Tryz.underlying25 inf22 rfl rfl rfl rfl) ?_; refine o_q _ rfl rfl rfl (v_lf1 rfl Tryz.underlying22 rfl rfl rfl) ?_; refine q_mv rfl rfl rfl rfl rfl ?_; refine o_q _ rfl rfl rfl (v_indexAddrSn rfl Tryz.underlying22 inf84 rfl rfl rfl (by omega) rfl) ?_; refine o_q _ rfl rfl rfl (v_loadEN rfl Tryz.underlying84 rfl inf84 rfl (by omega) rfl rfl rfl) ?_; refine o_alloc rfl inf84 rfl rfl rfl rfl rfl (fun b10 => ?_); refine o_st rfl inf84 rfl rfl rfl rfl rfl rfl rfl rfl ?_; refine o_nil (r_then (r_seq ?_)); refine r_seq ?_; refine Imp.box_to b10 (encLe (B.leases.getD n default)) rfl ?_; refine r_region ?_; refine o_q _ rfl rfl rfl (v_fieldAddr rfl Tryz.underlying84 inf43 rfl rfl rfl rfl) ?_; refine o_q _ rfl rfl rfl (v_fieldAddr rfl Tryz.underlying43 inf3 rfl rfl rfl rfl) ?_; refine o_q _ rfl rfl rfl (v_ld1 rfl Tryz.underlying3 rfl rfl rfl) ?_; refine q_as rfl rfl rfl rfl rfl ?_; refine o_nil (r_then ?_); refine r_block ?_; refine r_loop (ι := Nat × Value × List XA) (fun gh => gh.1 ≤ cntF B n ∧ gh.2.2.map XA.x = xs.map XA.x ++ preO B s x n gh.1 ∧ gh.2.2.length ≤ xs.length + 3 * gh.1 * 9 ^ r) (fun gh => [(2, i64 (s : Int)), (3, gh.2.1), (4, pt b4 0), (5, pt b5 0), (9, i64 (n : Int)), (10, pt b10 0), (11, i64 ((B.leases.getD n default).flo + (gh.1 : Int)))]) (fun gh => bx b10 84 (encLe (B.leases.getD n default)) :: ownL gh.2.1 41 2 encXA gh.2.2 :: M) (fun gh => rowsX gh.2.2 :: boxF b4 25 (cellsK B lo mo lc mc) :: boxF b5 41 [.slice fo x.f.length fc, .slice to_ x.t.length tc] :: ([rowsX xs, rowD lo 5 encLe B.leases, rowD mo 2 encMk B.marks, rowD fo 1 encI x.f, rowD to_ 1 encI x.t] ++ Rf)) (fun gh => cntF B n - gh.1) (0, v, xs) ?_ ?_ ?_
  ·
   exact r_here (by (repeat (first | exact FSub.nil | refine FSub.cons rfl ?_ | refine FSub.cons2 rfl (congrArg (Value.int .i64) (by push_cast; omega)) ?_)); first | done | fail) SelMC.sel SubRC.sub
  ·
   exact ⟨Nat.zero_le _, by rw [preO, List.append_nil], by show xs.length ≤ _; omega⟩
  ·
   rintro ⟨a, w, ys⟩ hI0; dsimp only at hI0; dsimp only; obtain ⟨ha0, hys, hyl⟩ := hI0; refine r_seq ?_; refine r_seq (r_region ?_); refine q_mv rfl rfl rfl rfl rfl ?_; refine o_q _ rfl rfl rfl (v_fieldAddr rfl Tryz.underlying84 inf43 rfl rfl rfl rfl) ?_; refine o_q _ rfl rfl rfl (v_fieldAddr rfl Tryz.underlying43 inf3 rfl rfl rfl rfl) ?_; refine o_q _ rfl rfl rfl (v_ld1 rfl Tryz.underlying3 rfl rfl rfl) ?_; refine o_q _ rfl rfl rfl (v_leq rfl rfl rfl) ?_; refine o_nil (r_then ?_); refine r_condd rfl (fun hc42 => ?_) (fun hc42 => ?_)
   ·
    refine r_skip (r_then ?_); refine r_seq (r_block ?_); refine r_seq (r_region ?_); refine o_q _ rfl rfl rfl (v_fieldAddr rfl Tryz.underlying84 inf43 rfl rfl rfl rfl) ?_; refine o_q _ rfl rfl rfl (v_fieldAddr rfl Tryz.underlying43 inf3 rfl rfl rfl rfl) ?_; refine o_q _ rfl rfl rfl (v_ld1 rfl Tryz.underlying3 rfl rfl rfl) ?_; refine q_as rfl rfl rfl rfl rfl ?_; refine o_nil (r_then ?_); refine r_block ?_; refine r_loop (ι := Nat × Value × List XA) (fun gh => gh.1 ≤ cntT B n ∧ gh.2.2.map XA.x = (xs.map XA.x ++ preO B s x n a) ++ preI B s x n a gh.1 ∧ gh.2.2.length ≤ xs.length + (3 * a + gh.1) * 9 ^ r) (fun gh => [(2, i64 (s : Int)), (3, gh.2.1), (4, pt b4 0), (5, pt b5 0), (9, i64 (n : Int)), (10, pt b10 0), (11, i64 ((B.leases.getD n default).flo + (a : Int))), (12, i64 ((B.leases.getD n default).tlo + (gh.1 : Int)))]) (fun gh => bx b10 84 (encLe (B.leases.getD n default)) :: ownL gh.2.1 41 2 encXA gh.2.2 :: M) (fun gh => rowsX gh.2.2 :: boxF b4 25 (cellsK B lo mo lc mc) :: boxF b5 41 [.slice fo x.f.length fc, .slice to_ x.t.length tc] :: ([rowsX xs, rowD lo 5 encLe B.leases, rowD mo 2 encMk B.marks, rowD fo 1 encI x.f, rowD to_ 1 encI x.t] ++ Rf)) (fun gh => cntT B n - gh.1) (0, w, ys) ?_ ?_ ?_
    ·
     exact r_here (by (repeat (first | exact FSub.nil | refine FSub.cons rfl ?_ | refine FSub.cons2 rfl (congrArg (Value.int .i64) (by push_cast; omega)) ?_)); first | done | fail) SelMC.sel SubRC.sub
    ·
     exact ⟨Nat.zero_le _, by rw [preI, List.append_nil]; exact hys, by show ys.length ≤ xs.length + (3 * a + 0) * 9 ^ r; exact hyl⟩
    ·
     rintro ⟨b, w, ys⟩ hI1; dsimp only at hI1; dsimp only; obtain ⟨hb0, hys1, hyl1⟩ := hI1; refine r_seq ?_; refine r_seq (r_region ?_); refine q_mv rfl rfl rfl rfl rfl ?_; refine o_q _ rfl rfl rfl (v_fieldAddr rfl Tryz.underlying84 inf43 rfl rfl rfl rfl) ?_; refine o_q _ rfl rfl rfl (v_fieldAddr rfl Tryz.underlying43 inf3 rfl rfl rfl rfl) ?_; refine o_q _ rfl rfl rfl (v_ld1 rfl Tryz.underlying3 rfl rfl rfl) ?_; refine o_q _ rfl rfl rfl (v_leq rfl rfl rfl) ?_; refine o_nil (r_then ?_); refine r_condd rfl (fun hc52 => ?_) (fun hc52 => ?_)
     ·
      refine r_skip (r_then ?_); refine r_seq (r_block ?_); refine r_seq (r_region ?_); refine q_mv rfl rfl rfl rfl rfl ?_; refine q_mv rfl rfl rfl rfl rfl ?_; refine o_q _ rfl rfl rfl (v_lss rfl rfl rfl) ?_; refine o_nil (r_then ?_); refine r_condd rfl (fun hc57 => ?_) (fun hc57 => ?_)
      ·
       have hm1 : (3 * a + b + 1) * 9 ^ r ≤ 9 * 9 ^ r := Nat.mul_le_mul_right _ (by omega); have hm2 : (3 * a + b + 1) * 9 ^ r = (3 * a + b) * 9 ^ r + 9 ^ r := Nat.succ_mul _ _; have hm3 : 9 ^ (r + 1) = 9 * 9 ^ r := by rw [Nat.pow_succ, Nat.mul_comm]
       refine r_parPZ [0, 1, 2, 3, 4, 5, 6, 7, 8, 9, 10, 11, 12, 13, 14, 16, 17, 15, 18, 19] (by kernel_rfl) rfl (fun w => w.heap[b4]? = some (.cells (cellsK B lo mo lc mc).toArray 25 (0, 0))) (fun X F w h => h.fact (φ := boxF b4 25 (cellsK B lo mo lc mc)) (List.mem_append_right _ InR.mem)) [0, 15, 16] 17 (by kernel_rfl) (by kernel_rfl) (by kernel_rfl) (by kernel_rfl) (by kernel_rfl) mixed (by kernel_rfl) (by rfl) ?_; refine p_q _ rfl rfl rfl (fun _ _ => v_lfW rfl Tryz.underlying25 rfl inf25 rfl rfl) ?_; refine p_lit0 rfl Tryz.underlying39 inf3 rfl rfl rfl ?_; refine p_q _ rfl rfl rfl (fun _ _ => v_fieldAddr rfl Tryz.underlying41 inf39 rfl rfl rfl rfl) ?_; refine p_q _ rfl rfl rfl (fun _ _ => v_lf1 rfl Tryz.underlying39 rfl rfl rfl) ?_; refine p_acc (by simp only [List.nil_append, List.cons_append]; rfl) ?_; refine p_appNL (sz := 1) 7 1 rfl rfl rfl (by kernel_rfl) rfl rfl rfl rfl Tryz.underlying39 inf3 rfl rfl rfl encI_len (fun _ => rfl) ⟨by omega, by decide⟩ ?_; refine p_q _ rfl rfl rfl (fun _ _ => v_move rfl rfl) ?_; refine p_lit rfl Tryz.underlying39 inf3 rfl rfl rfl rfl rfl rfl rfl rfl (by repeat (first | exact trivial | refine ⟨rfl, ?_⟩)) (by rfl) ?_; refine p_acc (by simp only [List.nil_append, List.cons_append]; rfl) ?_; refine p_appT (sz := 1) 4 6 (((B.leases.getD n default).flo + (a : Int))) rfl rfl rfl (by kernel_rfl) rfl rfl rfl (by kernel_rfl) rfl rfl rfl rfl rfl Tryz.underlying39 inf3 rfl rfl rfl encI_len rfl rfl ⟨by omega, by decide⟩ ?_; refine p_lit0 rfl Tryz.underlying39 inf3 rfl rfl rfl ?_; refine p_q _ rfl rfl rfl (fun _ _ => v_fieldAddr rfl Tryz.underlying41 inf39 rfl rfl rfl rfl) ?_; refine p_q _ rfl rfl rfl (fun _ _ => v_lf1 rfl Tryz.underlying39 rfl rfl rfl) ?_; refine p_acc (by simp only [List.nil_append, List.cons_append]; rfl) ?_; refine p_appNL (sz := 1) 14 8 rfl rfl rfl (by kernel_rfl) rfl rfl rfl rfl Tryz.underlying39 inf3 rfl rfl rfl encI_len (fun _ => rfl) ⟨by omega, by decide⟩ ?_; refine p_q _ rfl rfl rfl (fun _ _ => v_move rfl rfl) ?_; refine p_lit rfl Tryz.underlying39 inf3 rfl rfl rfl rfl rfl rfl rfl rfl (by repeat (first | exact trivial | refine ⟨rfl, ?_⟩)) (by rfl) ?_; refine p_acc (by simp only [List.nil_append, List.cons_append]; rfl) ?_; refine p_appT (sz := 1) 11 13 (((B.leases.getD n default).tlo + (b : Int))) rfl rfl rfl (by kernel_rfl) rfl rfl rfl (by kernel_rfl) rfl rfl rfl rfl rfl Tryz.underlying39 inf3 rfl rfl rfl encI_len rfl rfl ⟨by omega, by decide⟩ ?_; refine p_q _ rfl rfl rfl (fun _ _ => v_move rfl rfl) ?_; refine p_q _ rfl rfl rfl (fun _ _ => v_move rfl rfl) ?_; refine p_nilF (by simp only [List.nil_append, List.cons_append]; rfl) rfl ⟨⟨_, _, _, rfl, rfl, rfl, rfl, rfl, float_load (vs := cellsK B lo mo lc mc) (B := 25) rfl Tryz.underlying25 rfl inf25 rfl rfl (fun _ h => h)⟩, ⟨_, _, _, rfl, rfl, rfl, rfl, rfl, float_mv rfl rfl⟩, ⟨_, _, _, rfl, rfl, rfl, rfl, rfl, float_mv rfl rfl⟩, trivial⟩ ?_ (by kernel_rfl); refine f_q rfl ?_; refine f_l0 rfl (fun b59 => ?_); refine f_q rfl ?_
       refine f_q rfl ?_; refine f_ozl rfl (fun v62 => ?_); refine f_q rfl ?_; refine f_lit rfl (fun b64 => ?_); refine f_apt rfl (fun v65 => ?_); refine f_l0 rfl (fun b66 => ?_); refine f_q rfl ?_; refine f_q rfl ?_; refine f_ozl rfl (fun v69 => ?_); refine f_q rfl ?_; refine f_lit rfl (fun b71 => ?_); refine f_apt rfl (fun v72 => ?_); refine f_q rfl ?_; refine f_q rfl ?_; refine f_nil ?_; refine Imp.settleS v65 encI_len (fun fo2 fc2 hv65 => ?_); subst hv65; refine Imp.settleS v72 encI_len (fun to2 tc2 hv72 => ?_); subst hv72; refine oz_lift (fun w h => h.fact (φ := boxF b4 25 (cellsK B lo mo lc mc)) InR.mem) ?_; refine o_q _ rfl rfl rfl (v_bS rfl Tryz.underlying41 inf41 plt41 rfl rfl rfl (by repeat (first | exact trivial | refine ⟨rfl, ?_⟩)) (by rfl)) ?_; refine o_nil (r_then ?_); refine oz_lift (fun w h => h.fact (φ := boxF b4 25 (cellsK B lo mo lc mc)) InR.mem) ?_; refine o_fnX (ih (⟨x.f ++ [(B.leases.getD n default).flo + (a : Int)], x.t ++ [(B.leases.getD n default).tlo + (b : Int)]⟩ : Lin) fo2 to2 fc2 tc2 w ys (by simp only [List.length_append, List.length_cons, List.length_nil]; omega) (by simp only [List.length_append, List.length_cons, List.length_nil]; omega) (by omega)) rfl rfl rfl rfl rfl SubRC.sub (fun y76 hy76 => ?_); refine o_nil (r_then ?_); refine oz_lift (fun w h => h.fact (φ := boxF b4 25 (cellsK B lo mo lc mc)) InR.mem) ?_; refine q_as rfl rfl rfl rfl rfl ?_; refine o_nil (r_then ?_); refine oz_nil (fun w h => h.fact (φ := boxF b4 25 (cellsK B lo mo lc mc)) InR.mem) ?_; refine r_nop ?_; refine r_in_normal ?_; refine r_then ?_; refine r_region ?_; refine q_mv rfl rfl rfl rfl rfl ?_; refine o_q _ rfl rfl rfl (v_add rfl rfl rfl (by omega)) ?_; refine q_as rfl rfl rfl rfl rfl ?_; refine o_nil (r_then ?_); exact r_next ((b + 1, y76.1, y76.2)) (by exact r_here (by (repeat (first | exact FSub.nil | refine FSub.cons rfl ?_ | refine FSub.cons2 rfl (congrArg (Value.int .i64) (by push_cast; omega)) ?_)); first | done | fail) SelMC.sel SubRC.sub) (by exact ⟨by show b + 1 ≤ cntT B n; omega, by show y76.2.map XA.x = _; rw [hy76.1, hys1, preI, innL_y (by omega), List.append_assoc], by show y76.2.length ≤ xs.length + (3 * a + (b + 1)) * 9 ^ r; have h9 := hy76.2; rw [show 3 * a + (b + 1) = 3 * a + b + 1 from rfl, hm2]; omega⟩) (by show cntT B n - (b + 1) < cntT B n - b; omega)
      ·
       refine r_skip ?_; refine r_in_normal ?_; refine r_then ?_; refine r_region ?_; refine q_mv rfl rfl rfl rfl rfl ?_; refine o_q _ rfl rfl rfl (v_add rfl rfl rfl (by omega)) ?_; refine q_as rfl rfl rfl rfl rfl ?_; refine o_nil (r_then ?_); exact r_next ((b + 1, w, ys)) (by exact r_here (by (repeat (first | exact FSub.nil | refine FSub.cons rfl ?_ | refine FSub.cons2 rfl (congrArg (Value.int .i64) (by push_cast; omega)) ?_)); first | done | fail) SelMC.sel SubRC.sub) (by exact ⟨by show b + 1 ≤ cntT B n; omega, by show ys.map XA.x = _; rw [hys1, preI, innL_n (by omega), List.append_nil], by show ys.length ≤ xs.length + (3 * a + (b + 1)) * 9 ^ r; have h9 : (3 * a + b) * 9 ^ r ≤ (3 * a + (b + 1)) * 9 ^ r := Nat.mul_le_mul_right _ (by omega); omega⟩) (by show cntT B n - (b + 1) < cntT B n - b; omega)
     ·
      refine r_exit ?_; refine r_then_exit ?_; refine r_then_exit ?_; refine r_in_here ?_; refine r_in_normal ?_; refine r_then ?_; refine r_region ?_; refine q_mv rfl rfl rfl rfl rfl ?_; refine o_q _ rfl rfl rfl (v_add rfl rfl rfl (by omega)) ?_; refine q_as rfl rfl rfl rfl rfl ?_; refine o_nil (r_then ?_); exact r_next ((a + 1, w, ys)) (by exact r_here (by (repeat (first | exact FSub.nil | refine FSub.cons rfl ?_ | refine FSub.cons2 rfl (congrArg (Value.int .i64) (by push_cast; omega)) ?_)); first | done | fail) SelMC.sel SubRC.sub) (by exact ⟨by show a + 1 ≤ cntF B n; omega, by show ys.map XA.x = _; rw [hys1, preO, show b = cntT B n from by omega, List.append_assoc], by show ys.length ≤ xs.length + 3 * (a + 1) * 9 ^ r; have hm4 : (3 * a + b) * 9 ^ r ≤ 3 * (a + 1) * 9 ^ r := Nat.mul_le_mul_right _ (by omega); omega⟩) (by show cntF B n - (a + 1) < cntF B n - a; omega)
   ·
    refine r_exit ?_; refine r_then_exit ?_; refine r_then_exit ?_; refine r_in_here ?_; refine r_then (r_seq (r_region ?_)); refine q_mv rfl rfl rfl rfl rfl ?_; refine q_as rfl rfl rfl rfl rfl ?_; refine o_nil (r_then ?_); refine r_ret ?_; obtain rfl : a = cntF B n := by omega
    exact r_rete [ownL w 41 2 encXA ys] [rowsX ys] (Rd.tmp rfl rfl) ⟨(w, ys), rfl, ⟨by show ys.map XA.x = _; rw [hys, frm_split hn], by show ys.length ≤ xs.length + 9 ^ (r + 1); have hm5 : 3 * cntF B n * 9 ^ r ≤ 9 * 9 ^ r := Nat.mul_le_mul_right _ (by omega); rw [Nat.pow_succ, Nat.mul_comm]; omega⟩, rfl, rfl⟩ SelMC.sel SubRC.sub
end Go.Proofs.YtpndeonmmcaikaaGreat.DrW

namespace Go.Proofs.YtpndeonmmcaikaaGreat.DrW
open Go.G Foot4 Drain7
set_option maxRecDepth 1000000
attribute [local irreducible] G.ParO G.Fin
variable (B : Bk) (lo mo : Option Addr) (lc mc : Nat)
theorem from_y (s : Nat) (hs : s ≤ 1048576) (hg : GoodK B) : ∀ (r n : Nat) (x : Lin) (fo to_ : Option Addr) (fc tc : Nat) (v : Value) (xs : List XA), n + r = B.leases.length → x.f.length = n → x.t.length = n → xs.length + 9 ^ r ≤ 100000 → FnS Tryz.prog 92 [valK B lo mo lc mc, valX x fo to_ fc tc, i64 (s : Int), v] [ownL v 41 2 encXA xs] [rowsX xs, rowD lo 5 encLe B.leases, rowD mo 2 encMk B.marks, rowD fo 1 encI x.f, rowD to_ 1 encI x.t] (fun e M' R' => ∃ y : Value × List XA, e = .returned y.1 ∧ (y.2.map XA.x = xs.map XA.x ++ frmL B s (B.leases.drop (n)) (x) ∧ y.2.length ≤ xs.length + 9 ^ (r)) ∧ M' = [ownL y.1 41 2 encXA y.2] ∧ R' = [rowsX y.2])
  | 0, n, x, fo, to_, fc, tc, v, xs, h, hf, ht, hb => by
    obtain rfl : n = B.leases.length := by omega
    exact from_0 B lo mo lc mc s hs hg x fo to_ fc tc v xs hf ht hb
  | r + 1, n, x, fo, to_, fc, tc, v, xs, h, hf, ht, hb => from_s B lo mo lc mc s hs hg x fo to_ fc tc v xs n r (by omega) hf ht hb (fun x fo to_ fc tc v xs h1 h2 h3 => from_y s hs hg r (n + 1) x fo to_ fc tc v xs (by omega) h1 h2 h3)
def truL (B : Bk) (s : Nat) : List Lin := frmL B s B.leases ⟨[], []⟩
abbrev TrX (B : Bk) (s : Nat) := {y : (Option Addr × Nat) × List XA // y.2.map XA.x = truL B s ∧ y.2.length ≤ 100000}
set_option maxHeartbeats 4000000 in
theorem truths_s (s : Nat) (hs : s ≤ 1048576) (hg : GoodK B) : FnS Tryz.prog 36 [valK B lo mo lc mc, i64 (s : Int)] [] [rowD lo 5 encLe B.leases, rowD mo 2 encMk B.marks] (fun e M' R' => ∃ y : TrX B (s), e = .returned (.slice y.1.1.1 y.1.2.length y.1.1.2) ∧ M' = [] ∧ R' = [rowD y.1.1.1 2 encXA y.1.2, rowsX y.1.2]) := by
 refine FnS.intro0 Tryz.call36 Tryz.func36 rfl Tryz.ntmps36 rfl ?_; intro W M Rf; refine r_seq ?_; obtain ⟨_, _, hl4, _, _, _⟩ := id hg; refine r_region ?_; refine o_boxA rfl rfl rfl rfl rfl (fun b2 => ?_); refine q_as rfl rfl rfl rfl rfl ?_; refine o_nil (r_then (r_seq ?_)); refine Imp.nilL 41 2 encXA ?_; refine Imp.derive (ψ := rowsX []) ?_ (fun V _ => rowsX_nil V); refine Imp.derive (ψ := rowD none 1 encI []) ?_ (fun V _ => .inl rfl); refine r_region ?_; refine o_q _ rfl rfl rfl (v_ldW rfl Tryz.underlying25 rfl inf25 rfl rfl) ?_; refine o_q _ rfl rfl rfl (v_cast (v := valX ⟨[], []⟩ none none 0 0) (v_bS0 rfl Tryz.underlying41 inf41 plt41 rfl rfl) rfl) ?_; refine q_mv rfl rfl rfl rfl rfl ?_; refine o_fnX (from_y B lo mo lc mc s hs hg B.leases.length 0 ⟨[], []⟩ none none 0 0 (.slice none 0 0) [] (by omega) rfl rfl (by have h4 : 9 ^ B.leases.length ≤ 9 ^ 4 := Nat.pow_le_pow_right (by decide) (by omega); show 0 + _ ≤ _; omega)) rfl rfl rfl rfl rfl SubRC.sub (fun y8 hy8 => ?_); refine q_as rfl rfl rfl rfl rfl ?_; refine o_nil (r_then ?_); refine r_ret ?_; refine Imp.settleS y8.1 encXA_len (fun oz cz hz => ?_); rw [hz]; exact r_rete [] [rowD oz 2 encXA y8.2, rowsX y8.2] (Rd.tmp rfl rfl) ⟨⟨((oz, cz), y8.2), by have h := hy8.1; rw [List.map_nil, List.nil_append, List.drop_zero] at h; exact ⟨h, by have h2 := hy8.2; have h4 : 9 ^ B.leases.length ≤ 9 ^ 4 := Nat.pow_le_pow_right (by decide) (by omega); simp only [List.length_nil] at h2; show y8.2.length ≤ 100000; omega⟩⟩, rfl, rfl, rfl⟩ SelMC.sel SubRC.sub
set_option maxHeartbeats 4000000 in
theorem Truths_s (hg : GoodK B) : FnS Tryz.prog 8 [valK B lo mo lc mc] [] [rowD lo 5 encLe B.leases, rowD mo 2 encMk B.marks] (fun e M' R' => ∃ y : TrX B ((2 ^ B.marks.length - 1)), e = .returned (.slice y.1.1.1 y.1.2.length y.1.1.2) ∧ M' = [] ∧ R' = [rowD y.1.1.1 2 encXA y.1.2, rowsX y.1.2]) := by
 refine FnS.intro0 Tryz.call8 Tryz.func8 rfl Tryz.ntmps8 rfl ?_; intro W M Rf; refine r_seq ?_; obtain ⟨_, _, _, hm6, _, _⟩ := id hg; have hp6 : 2 ^ B.marks.length ≤ 2 ^ 6 := Nat.pow_le_pow_right (by decide) (by omega); refine r_region ?_; refine o_boxA rfl rfl rfl rfl rfl (fun b1 => ?_); refine q_as rfl rfl rfl rfl rfl ?_; refine o_nil (r_then (r_seq ?_)); refine r_par' 3 mixed (by kernel_rfl) (by rfl) ?_; refine p_q _ rfl rfl rfl (fun _ _ => v_ldW rfl Tryz.underlying25 rfl inf25 rfl rfl) ?_; refine p_q _ rfl rfl rfl (fun _ _ => v_ldW rfl Tryz.underlying25 rfl inf25 rfl rfl) ?_; refine p_q _ rfl rfl rfl (fun _ _ => OpQ.fn (every01_v B lo mo lc mc hg) rfl rfl SubRC.sub) ?_; refine p_nil2 (by simp only [List.nil_append, List.cons_append]; rfl) rfl ?_; (iterate 3 refine f_q rfl ?_); refine f_nil ?_; refine o_fnF (truths_s B lo mo lc mc (2 ^ B.marks.length - 1) (by omega) hg) rfl rfl rfl rfl rfl SubRC.sub (fun y6 => ?_); refine q_as rfl rfl rfl rfl rfl ?_; refine o_nil (r_then ?_); refine r_ret ?_; exact r_rete [] [rowD y6.1.1.1 2 encXA y6.1.2, rowsX y6.1.2] (Rd.tmp rfl rfl) ⟨y6, rfl, rfl, rfl⟩ SelMC.sel SubRC.sub
end Go.Proofs.YtpndeonmmcaikaaGreat.DrW

namespace Go.Proofs.YtpndeonmmcaikaaGreat.DrW
open Go.G Foot4 Drain7
set_option maxRecDepth 1000000
attribute [local irreducible] G.ParO G.Fin
structure TruX (B : Bk) (x : Lin) : Prop where
  fl : x.f.length = B.leases.length
  tl : x.t.length = B.leases.length
  bd : ∀ k, k < B.leases.length → ((B.leases.getD k default).flo ≤ x.f.getD k 0 ∧ x.f.getD k 0 ≤ (B.leases.getD k default).fhi) ∧ ((B.leases.getD k default).tlo ≤ x.t.getD k 0 ∧ x.t.getD k 0 ≤ (B.leases.getD k default).thi) ∧ x.f.getD k 0 < x.t.getD k 0
  mks : ∀ k, k < B.marks.length → ofX B x (B.marks.getD k default).perch = (B.marks.getD k default).holder
theorem frm_mem {B : Bk} {s : Nat} {y : Lin} : ∀ (r n : Nat) (x : Lin), n + r = B.leases.length → x.f.length = n → x.t.length = n
    → (∀ k, k < n → ((B.leases.getD k default).flo ≤ x.f.getD k 0 ∧ x.f.getD k 0 ≤ (B.leases.getD k default).fhi) ∧ ((B.leases.getD k default).tlo ≤ x.t.getD k 0 ∧ x.t.getD k 0 ≤ (B.leases.getD k default).thi) ∧ x.f.getD k 0 < x.t.getD k 0)
    → y ∈ frmL B s (B.leases.drop n) x → (y.f.length = B.leases.length ∧ y.t.length = B.leases.length) ∧ (∀ k, k < B.leases.length → ((B.leases.getD k default).flo ≤ y.f.getD k 0 ∧ y.f.getD k 0 ≤ (B.leases.getD k default).fhi) ∧ ((B.leases.getD k default).tlo ≤ y.t.getD k 0 ∧ y.t.getD k 0 ≤ (B.leases.getD k default).thi) ∧ y.f.getD k 0 < y.t.getD k 0) ∧ RightX B y s
  | 0, n, x, hn, hf, ht, hb, hy => by
    obtain rfl : n = B.leases.length := by omega
    rw [frm_end (Nat.le_refl _)] at hy
    split at hy
    · rename_i hr
      obtain rfl : y = x := by simpa using hy
      exact ⟨⟨hf, ht⟩, hb, hr⟩
    · simp at hy
  | r + 1, n, x, hn, hf, ht, hb, hy => by
    have hl : n < B.leases.length := by omega
    rw [drop_consD hl] at hy
    simp only [frmL, List.mem_flatMap, List.mem_range] at hy
    obtain ⟨a, ha, b, hbb, hy⟩ := hy
    split at hy
    · rename_i hlt
      have gf : ∀ (l : List Int) (v : Int), l.length = n → ∀ k, (l ++ [v]).getD k 0 = if k < n then l.getD k 0 else if k = n then v else 0 := by
        intro l v hlen k
        subst hlen
        simp only [List.getD_eq_getElem?_getD, List.getElem?_append]
        split
        · rfl
        · by_cases e : k = l.length
          · subst e; rw [if_pos rfl, Nat.sub_self]; rfl
          · rw [if_neg e, List.getElem?_eq_none (by simp only [List.length_singleton]; omega)]; rfl
      refine frm_mem r (n + 1) _ (by omega) (by simp [hf]) (by simp [ht]) (fun k hk => ?_) hy
      dsimp only
      rw [gf x.f _ hf, gf x.t _ ht]
      by_cases e : k < n
      · rw [if_pos e, if_pos e]; exact hb k e
      · obtain rfl : k = n := by omega
        rw [if_neg (Nat.lt_irrefl _), if_neg (Nat.lt_irrefl _), if_pos rfl, if_pos rfl]
        omega
    · simp at hy
theorem tru_of {B : Bk} {x : Lin} (h : x ∈ truL B (2 ^ B.marks.length - 1)) : TruX B x := by
  have h0 := frm_mem (B := B) (s := 2 ^ B.marks.length - 1) (y := x) B.leases.length 0 ⟨[], []⟩ (by omega) rfl rfl (fun k hk => absurd hk (by omega)) (by rw [List.drop_zero]; exact h)
  refine ⟨h0.1.1, h0.1.2, h0.2.1, fun k hk => h0.2.2 k hk ?_⟩
  unfold HasB
  rw [Nat.testBit_two_pow_sub_one]
  exact decide_eq_true hk
def farX (x : Lin) (q : Int) (i : Nat) : Int := if q < x.f.getD i 0 then 0 else if q < x.t.getD i 0 then 1 else 2
def bldN (B : Bk) (x : Lin) (q : Int) : Nat → L5
  | 0 => ⟨0, 0, 0, 0, B.holders⟩
  | k + 1 => stepTo (bldN B x q k) k (B.leases.getD k default) (farX x q k)
theorem step_at {y : L5} {k : Nat} {le : Lease} {far : Int} (hk : k < 4) {j : Nat} (hj : j < 4) : (stepTo y k le far).at j = if j = k then far else y.at j := by
  unfold stepTo
  split
  · rw [L5.at_set (by omega) (by omega), if_neg (by omega), L5.at_set (by omega) (by omega)]
  · rw [L5.at_set (by omega) (by omega)]
theorem step_e {y : L5} {k : Nat} {le : Lease} {far : Int} (hk : k < 4) : (stepTo y k le far).e = if far = 1 then le.holder else y.e := by
  have h : ∀ z : L5, z.e = z.at 4 := fun z => rfl
  unfold stepTo
  split
  · rw [h, L5.at_set (by omega) (by omega), if_pos rfl]
  · rw [h, L5.at_set (by omega) (by omega), if_neg (by omega)]; rfl
theorem bld_at {B : Bk} {x : Lin} {q : Int} : ∀ k, k ≤ 4 → ∀ j, j < k → (bldN B x q k).at j = farX x q j
  | 0, _, j, hj => by omega
  | k + 1, hk, j, hj => by
    rw [bldN, step_at (by omega) (by omega)]
    split
    · rename_i e; rw [e]
    · exact bld_at k (by omega) j (by omega)
theorem bld_e {B : Bk} {x : Lin} {q : Int} (hft : ∀ k, k < B.leases.length → x.f.getD k 0 < x.t.getD k 0) : ∀ k, k ≤ 4 → k ≤ B.leases.length → (bldN B x q k).e = ofTo B x q k
  | 0, _, _ => rfl
  | k + 1, hk, hl => by
    have ih := bld_e (q := q) hft k (by omega) (by omega)
    rw [bldN, step_e (by omega), ih]
    by_cases h : x.f.getD k 0 ≤ q ∧ q < x.t.getD k 0
    · have e : farX x q k = 1 := by unfold farX; rw [if_neg (by omega), if_pos h.2]
      rw [ofTo_y h, if_pos e]
    · have e : farX x q k ≠ 1 := by
        have h2 := hft k (by omega)
        unfold farX
        split
        · decide
        · rw [if_neg (by omega)]; decide
      rw [ofTo_n h, if_neg e]
theorem far_step {B : Bk} {x : Lin} (ht : TruX B x) {q : Int} {i : Nat} (hi : i < B.leases.length) : farX x q i ∈ stepsL (B.leases.getD i default) (farX x (q - 1) i) q := by
  obtain ⟨h1, h2, h3⟩ := ht.bd i hi
  unfold farX stepsL
  by_cases a : q < x.f.getD i 0
  · rw [if_pos a, if_pos (show q - 1 < x.f.getD i 0 by omega), if_pos rfl, if_pos (show q < _ ∧ q + 1 < _ by omega)]
    simp
  · rw [if_neg a]
    by_cases b : q < x.t.getD i 0
    · rw [if_pos b]
      by_cases c : q - 1 < x.f.getD i 0
      · rw [if_pos c, if_pos rfl, if_pos (show (_ ≤ q ∧ q ≤ _) ∧ q < (B.leases.getD i default).thi by omega)]
        simp
      · rw [if_neg c, if_pos (show q - 1 < x.t.getD i 0 by omega), if_neg (by decide), if_pos rfl, if_pos (show q < (B.leases.getD i default).thi by omega)]
        simp
    · rw [if_neg b, if_neg (show ¬ q - 1 < x.f.getD i 0 by omega)]
      by_cases c : q - 1 < x.t.getD i 0
      · rw [if_pos c, if_neg (by decide), if_pos rfl, if_pos (show _ ≤ q ∧ q ≤ (B.leases.getD i default).thi by omega)]
        simp
      · rw [if_neg c, if_neg (by decide), if_neg (by decide)]
        simp
theorem bld_mem {B : Bk} {x : Lin} (ht : TruX B x) (h4 : B.leases.length ≤ 4) {s : L5} {q : Int} (hs : ∀ i, i < B.leases.length → s.at i = farX x (q - 1) i) : ∀ (r i : Nat), i + r = B.leases.length → bldN B x q B.leases.length ∈ nxt (B.leases.drop i) i s q (bldN B x q i)
  | 0, i, h => by
    obtain rfl : i = B.leases.length := by omega
    rw [nxt_end (Nat.le_refl _)]
    simp
  | r + 1, i, h => by
    have hi : i < B.leases.length := by omega
    rw [drop_consD hi, nxt, List.mem_flatMap]
    refine ⟨farX x q i, ?_, bld_mem ht h4 hs r (i + 1) (by omega)⟩
    rw [hs i hi]
    exact far_step ht hi
def stP (B : Bk) (x : Lin) : Nat → L5
  | 0 => ⟨0, 0, 0, 0, -1⟩
  | k + 1 => bldN B x (k : Int) B.leases.length
theorem stP_at {B : Bk} {x : Lin} (hg : GoodK B) (ht : TruX B x) (h4 : B.leases.length ≤ 4) : ∀ k i, i < B.leases.length → (stP B x k).at i = farX x ((k : Int) - 1) i
  | 0, i, hi => by
    have h1 := (ht.bd i hi).1
    have h2 := (hg.2.2.2.2.1 i hi).2.1
    unfold SpanK at h2
    unfold farX
    rw [if_pos (by omega)]
    obtain rfl | rfl | rfl | rfl : i = 0 ∨ i = 1 ∨ i = 2 ∨ i = 3 := by omega
    all_goals rfl
  | k + 1, i, hi => by
    rw [stP, bld_at _ h4 i hi]
    congr 1
    omega
theorem ask_a {ms : List (Option Drain7.Mark)} {p h : Int} (H : ∀ m ∈ ms, AskI m p h) : AskA ms p h := fun ⟨k, hk, hn⟩ => hn (by
  refine H _ ?_
  rw [List.getD_eq_getElem?_getD, List.getElem?_eq_getElem hk]
  exact List.getElem_mem hk)
theorem stP_mem {B : Bk} {x : Lin} {ms : List (Option Drain7.Mark)} (hg : GoodK B) (ht : TruX B x) (h4 : B.leases.length ≤ 4) (hm : ∀ m ∈ ms, ∀ q : Int, AskI m q (ofX B x q)) : ∀ k, stP B x k ∈ pathsT B ms k
  | 0 => by simp [pathsT, stP]
  | k + 1 => by
    rw [pathsT, List.mem_flatMap]
    refine ⟨stP B x k, stP_mem hg ht h4 hm k, ?_⟩
    unfold okL
    rw [List.mem_filter]
    refine ⟨?_, decide_eq_true (ask_a fun m hmm => ?_)⟩
    · exact bld_mem ht h4 (stP_at hg ht h4 k) B.leases.length 0 (by omega)
    · rw [stP, bld_e (fun i hi => (ht.bd i hi).2.2) _ h4 (Nat.le_refl _)]
      exact hm m hmm k
theorem ways_pos {B : Bk} {x : Lin} {ms : List (Option Drain7.Mark)} (hg : GoodK B) (ht : TruX B x) (h4 : B.leases.length ≤ 4) (hm : ∀ m ∈ ms, ∀ q : Int, AskI m q (ofX B x q)) : 0 < waysB B ms := by
  unfold waysB
  refine List.length_pos_of_mem (a := stP B x B.perches.toNat) (List.mem_filter.2 ⟨stP_mem hg ht h4 hm _, decide_eq_true fun i hi => ?_⟩)
  have hp := hg.1
  obtain ⟨h1, h2, h3⟩ := ht.bd i hi
  obtain ⟨_, e1, e2, _⟩ := hg.2.2.2.2.1 i hi
  unfold SpanK at e1 e2
  unfold EndI
  rw [stP_at hg ht h4 _ i hi]
  unfold farX
  rw [if_neg (by omega)]
  split
  · refine ⟨by decide, .inr (by omega)⟩
  · exact ⟨by decide, .inl rfl⟩
theorem ask_0 {B : Bk} {x : Lin} (ht : TruX B x) : ∀ m ∈ asks0 B, ∀ q : Int, AskI m q (ofX B x q) := by
  intro m hm q
  unfold asks0 at hm
  rcases List.mem_cons.1 hm with rfl | hm
  · trivial
  · obtain ⟨y, hy, rfl⟩ := List.mem_map.1 hm
    obtain ⟨k, hk, rfl⟩ := List.mem_iff_getElem.1 hy
    have h := ht.mks k hk
    rw [List.getD_eq_getElem?_getD, List.getElem?_eq_getElem hk] at h
    intro e
    subst e
    exact h
theorem ways0_pos {B : Bk} {x : Lin} (hg : GoodK B) (ht : TruX B x) : 0 < waysB B (asks0 B) := ways_pos hg ht (by have := hg.2.2.1; omega) (ask_0 ht)
theorem of_bd {B : Bk} {x : Lin} (hg : GoodK B) {q : Int} : ∀ k, k ≤ B.leases.length → 0 ≤ ofTo B x q k ∧ ofTo B x q k ≤ B.holders
  | 0, _ => by have := hg.2.1; show 0 ≤ B.holders ∧ B.holders ≤ B.holders; omega
  | k + 1, hk => by
    unfold ofTo
    split
    · have := (hg.2.2.2.2.1 k hk).1; omega
    · exact of_bd hg k (by omega)
theorem ofX_bd {B : Bk} (x : Lin) (hg : GoodK B) (q : Int) : 0 ≤ ofX B x q ∧ ofX B x q ≤ B.holders := of_bd hg B.leases.length (Nat.le_refl _)
theorem who_bit {B : Bk} {x : Lin} (hg : GoodK B) (ht : TruX B x) (p : Int) : (whoseB B p).testBit (ofX B x p).toNat = true := by
  have hb := ofX_bd x hg p
  have hh := hg.2.1
  refine whoTo_bit B p _ (by omega) (ways_pos hg ht (by have := hg.2.2.1; omega) fun m hm q => ?_)
  rcases List.mem_append.1 hm with hm | hm
  · exact ask_0 ht m hm q
  · obtain rfl : m = some ⟨p, ((ofX B x p).toNat : Int)⟩ := by simpa using hm
    intro e
    have e2 : q = p := e
    show ofX B x q = ((ofX B x p).toNat : Int)
    rw [e2]
    omega
theorem who_lt {B : Bk} (hg : GoodK B) (p : Int) : whoseB B p < 32 := by
  have h := whoTo_lt B p (B.holders + 1).toNat
  have h2 : 2 ^ (B.holders + 1).toNat ≤ 2 ^ 5 := Nat.pow_le_pow_right (by decide) (by have := hg.2.1; omega)
  exact Nat.lt_of_lt_of_le h h2
theorem who_pos {B : Bk} {x : Lin} (hg : GoodK B) (ht : TruX B x) (p : Int) : 0 < whoseB B p := by
  have h := who_bit hg ht p
  rcases Nat.eq_zero_or_pos (whoseB B p) with h0 | h0
  · rw [h0, Nat.zero_testBit] at h; cases h
  · exact h0
theorem two_bits' : ∀ a : Fin 32, ∀ i : Fin 5, ∀ j : Fin 5, i = j ∨ a.val.testBit i.val = false ∨ a.val.testBit j.val = false ∨ a.val &&& (a.val - 1) ≠ 0 := by decide +kernel
theorem two_bits {a : Nat} (ha : a < 32) {i : Nat} (hi : i < 5) {j : Nat} (hj : j < 5) (hij : i ≠ j) (h1 : a.testBit i = true) (h2 : a.testBit j = true) : a &&& (a - 1) ≠ 0 := by
  rcases two_bits' ⟨a, ha⟩ ⟨i, hi⟩ ⟨j, hj⟩ with h | h | h | h
  · exact absurd (congrArg Fin.val h) hij
  · have h' : a.testBit i = false := h
    rw [h1] at h'; cases h'
  · have h' : a.testBit j = false := h
    rw [h2] at h'; cases h'
  · exact h
def Cnts (B : Bk) (r : Right) : Prop := whoseB B r.of_ ≠ whoseB B r.to_ ∨ whoseB B r.of_ &&& (whoseB B r.of_ - 1) ≠ 0
instance (B : Bk) (r : Right) : Decidable (Cnts B r) := by unfold Cnts; infer_instance
theorem cnts_of {B : Bk} {x : Lin} (hg : GoodK B) (ht : TruX B x) {r : Right} (h : ofX B x r.of_ ≠ ofX B x r.to_) : Cnts B r := by
  have h1 := who_bit hg ht r.of_
  have h2 := who_bit hg ht r.to_
  have b1 := ofX_bd x hg r.of_
  have b2 := ofX_bd x hg r.to_
  have hh := hg.2.1
  unfold Cnts
  by_cases e : whoseB B r.of_ = whoseB B r.to_
  · rw [← e] at h2
    exact .inr (two_bits (who_lt hg r.of_) (i := (ofX B x r.of_).toNat) (by omega) (j := (ofX B x r.to_).toNat) (by omega) (by omega) h1 h2)
  · exact .inl e
end Go.Proofs.YtpndeonmmcaikaaGreat.DrW

namespace Go.Proofs.YtpndeonmmcaikaaGreat.DrW
open Go.G Foot4 Drain7
set_option maxRecDepth 1000000
attribute [local irreducible] G.ParO G.Fin
attribute [local irreducible] sortedL
@[reducible] def withR (D : Dr) (rs : List Right) : Dr := ⟨D.banks, D.ways, rs, []⟩
theorem crK_w {D : Dr} {rs : List Right} {l : L5} {s x : Nat} : ∀ k, crK (withR D rs) l s x k = crK D l s x k
  | 0 => rfl
  | k + 1 => by
    have ih := crK_w (D := D) (rs := rs) (l := l) (s := s) (x := x) k
    unfold crK
    rw [ih]
    rfl
theorem cr_w {D : Dr} {rs : List Right} {l : L5} {s x : Nat} : cr (withR D rs) l s x = cr D l s x := crK_w _
theorem wat_w {D : Dr} {rs : List Right} {l : L5} {s : Nat} : ∀ f b, wat (withR D rs) l s f b = wat D l s f b
  | 0, b => rfl
  | f + 1, b => by
    have ih : wat (withR D rs) l s f = wat D l s f := funext fun b => wat_w f b
    have hc : (fun x => decide (cr (withR D rs) l s x = (b : Int))) = fun x => decide (cr D l s x = (b : Int)) := funext fun x => by rw [cr_w]
    rw [wat_s, wat_s]
    unfold watL
    rw [ih]
    have hb : (withR D rs).banks = D.banks := rfl
    rw [hb, hc]
    rfl
theorem keepR_w {D : Dr} {rs : List Right} {l : L5} {s : Nat} {r : Right} : KeepR (withR D rs) l s r ↔ KeepR D l s r := by
  unfold KeepR flowW
  rw [cr_w, wat_w]
theorem allL_w {D : Dr} {rs : List Right} : allL (withR D rs) = allL D := rfl
theorem keepA_iff {D : Dr} {s : Nat} : KeepA D s ↔ ∀ l ∈ allL D, ∀ r ∈ D.rights, KeepR D l s r := by
  constructor
  · intro h l hl r hr
    obtain ⟨k, hk, rfl⟩ := List.mem_iff_getElem.1 hl
    obtain ⟨j, hj, rfl⟩ := List.mem_iff_getElem.1 hr
    have := h k hk j hj
    rwa [List.getD_eq_getElem?_getD, List.getElem?_eq_getElem hk, List.getD_eq_getElem?_getD, List.getElem?_eq_getElem hj] at this
  · intro h k hk j hj
    refine h _ ?_ _ ?_
    · rw [List.getD_eq_getElem?_getD, List.getElem?_eq_getElem hk]; exact List.getElem_mem hk
    · rw [List.getD_eq_getElem?_getD, List.getElem?_eq_getElem hj]; exact List.getElem_mem hj
theorem keepA_sub {D : Dr} {rs qs : List Right} (h : ∀ r ∈ qs, r ∈ rs) {s : Nat} (hk : KeepA (withR D rs) s) : KeepA (withR D qs) s := by
  rw [keepA_iff] at hk ⊢
  intro l hl r hr
  exact keepR_w.2 (keepR_w.1 (hk l hl r (h r hr)))
theorem off_full {n i : Nat} (h : i < n) : ¬ Off (2 ^ n - 1) i := by
  unfold Off
  have h1 := Nat.testBit_two_pow_sub_one n i
  rw [decide_eq_true h, Nat.testBit_eq_decide_div_mod_eq] at h1
  have := of_decide_eq_true h1
  omega
theorem crK_full {D : Dr} {l : L5} {x : Nat} : ∀ k, crK D l (2 ^ D.ways.length - 1) x k = -1
  | 0 => rfl
  | k + 1 => by
    have ih := crK_full (D := D) (l := l) (x := x) k
    rw [crK_n, ih]
    rintro ⟨⟨i, hi, ho, _⟩, _⟩
    exact off_full hi ho
theorem keep_full {D : Dr} (hg : GoodD D) : KeepA D (2 ^ D.ways.length - 1) := by
  intro k _ j hj
  have h1 := (hg.2.2.2.2.2.2.1 j hj)
  have h2 := h1.1.2.1
  unfold KeepR flowW
  rw [if_neg]
  · exact h1.2.1
  · rw [show cr D _ _ _ = -1 from crK_full _]
    omega
theorem stop_keep {D : Dr} (hg : GoodD D) : KeepA D (stopD D) ∧ (sortedL D.ways.length).find? (fun s => decide (KeepA D s)) = some (stopD D) := by
  unfold stopD
  cases h : (sortedL D.ways.length).find? fun s => decide (KeepA D s) with
  | none =>
    have h2 := List.find?_eq_none.1 h (2 ^ D.ways.length - 1) (Drain7.mem_sorted.2 (by have : 0 < 2 ^ D.ways.length := Nat.pow_pos (by decide); omega))
    exact absurd (decide_eq_true (keep_full hg)) h2
  | some a =>
    have h3 := List.find?_some (p := fun s => decide (KeepA D s)) h
    exact ⟨of_decide_eq_true h3, rfl⟩
theorem stop_le {D : Dr} {rs qs : List Right} (h : ∀ r ∈ qs, r ∈ rs) (h1 : GoodD (withR D rs)) (h2 : GoodD (withR D qs)) : cnt (stopD (withR D qs)) ≤ cnt (stopD (withR D rs)) :=
  Drain7.find_le _ (Drain7.sorted_cnt D.ways.length) (fun s hs => decide_eq_true (keepA_sub h (of_decide_eq_true hs))) (stop_keep h1).2 (stop_keep h2).2
theorem good_w {D : Dr} (hg : GoodD D) : GoodD (withR D D.rights) := by
  obtain ⟨h1, h2, h3, h4, h5, h6, h7, h8⟩ := hg
  exact ⟨h1, h2, h3, by show ((0 : Nat) : Int) ≤ 4; decide, h5, h6, h7, fun k hk => absurd hk (by show ¬ k < 0; omega)⟩
theorem good_f {D : Dr} (hg : GoodD D) (p : Right → Bool) : GoodD (withR D (D.rights.filter p)) := by
  obtain ⟨h1, h2, h3, h4, h5, h6, h7, h8⟩ := hg
  have hl := List.length_filter_le p D.rights
  refine ⟨h1, h2, by show ((D.rights.filter p).length : Int) ≤ 4; omega, by show ((0 : Nat) : Int) ≤ 4; decide, h5, h6, fun k hk => ?_, fun k hk => absurd hk (by show ¬ k < 0; omega)⟩
  have hm : (D.rights.filter p).getD k default ∈ D.rights.filter p := by
    rw [List.getD_eq_getElem?_getD, List.getElem?_eq_getElem hk]; exact List.getElem_mem hk
  obtain ⟨j, hj, e⟩ := List.mem_iff_getElem.1 (List.mem_filter.1 hm).1
  have := h7 j hj
  rw [List.getD_eq_getElem?_getD, List.getElem?_eq_getElem hj] at this
  show TwoD D ((D.rights.filter p).getD k default).of_ _ ∧ _
  rw [← e]
  exact this
def lv5 (lv : List Int) : L5 := ⟨lv.getD 0 0, lv.getD 1 0, lv.getD 2 0, lv.getD 3 0, lv.getD 4 0⟩
theorem lv5_at {lv : List Int} {k : Nat} (h : k < 5) : (lv5 lv).at k = lv.getD k 0 := by
  rcases lt5 h with rfl | rfl | rfl | rfl | rfl <;> rfl
def InB (D : Dr) (lv : List Int) : Prop := lv.length = D.banks.length ∧ ∀ k, k < D.banks.length → (D.banks.getD k default).llo ≤ lv.getD k 0 ∧ lv.getD k 0 ≤ (D.banks.getD k default).lhi
def InY (D : Dr) (ys : List Int) : Prop := ys.length = D.banks.length ∧ ∀ k, k < D.banks.length → (D.banks.getD k default).ylo ≤ ys.getD k 0 ∧ ys.getD k 0 ≤ (D.banks.getD k default).yhi
theorem lv5_all {D : Dr} (hg : GoodD D) {lv : List Int} (h : InB D lv) : lv5 lv ∈ allL D := by
  rw [mem_allL hg]
  have h5 := hg.1.2
  refine ⟨fun j hj => ?_, fun k hk hk2 => ?_⟩
  · rw [lv5_at (by omega)]; exact h.2 j hj
  · rw [lv5_at hk, List.getD_eq_getElem?_getD, List.getElem?_eq_none (by rw [h.1]; exact hk2)]; rfl
theorem has_off {n s i : Nat} (hs : s < 2 ^ n) (hi : i < n) : HasB (2 ^ n - 1 - s) i ↔ Off s i := by
  unfold HasB Off
  rw [show 2 ^ n - 1 - s = 2 ^ n - (s + 1) from by omega, Nat.testBit_two_pow_sub_succ hs, decide_eq_true hi, Bool.true_and, Nat.testBit_eq_decide_div_mod_eq]
  simp only [Bool.not_eq_true', decide_eq_false_iff_not]
  omega
theorem join_off {D : Dr} {s : Nat} (hs : s < 2 ^ D.ways.length) {x y : Int} : JoinD D (2 ^ D.ways.length - 1 - s) x y ↔ JoinS D s x y := by
  constructor
  · rintro ⟨i, hi, h1, h2⟩
    exact ⟨i, hi, (has_off hs hi).1 h1, by unfold Jn; exact h2⟩
  · rintro ⟨i, hi, h1, h2⟩
    exact ⟨i, hi, (has_off hs hi).2 h1, by unfold Jn at h2; exact h2⟩
theorem nx_cr {D : Dr} (hg : GoodD D) {lv : List Int} {s b : Nat} (hs : s < 2 ^ D.ways.length) (hb : b < D.banks.length) : ∀ k, k ≤ D.banks.length → (crK D (lv5 lv) s b k = -1 ∧ nxTo D lv (2 ^ D.ways.length - 1 - s) b k = D.banks.length) ∨ (0 ≤ crK D (lv5 lv) s b k ∧ crK D (lv5 lv) s b k < k ∧ (nxTo D lv (2 ^ D.ways.length - 1 - s) b k : Int) = crK D (lv5 lv) s b k)
  | 0, _ => .inl ⟨rfl, rfl⟩
  | k + 1, hk => by
    have h5 := hg.1.2
    have ih := nx_cr hg (lv := lv) hs hb k (by omega)
    have hlt : lv.getD k 0 < lv.getD b 0 ↔ (lv5 lv).at k < (lv5 lv).at b := by rw [lv5_at (by omega), lv5_at (by omega)]
    have hco : (nxTo D lv (2 ^ D.ways.length - 1 - s) b k = D.banks.length ∨ lv.getD k 0 < lv.getD (nxTo D lv (2 ^ D.ways.length - 1 - s) b k) 0) ↔ (crK D (lv5 lv) s b k = -1 ∨ (lv5 lv).at k < (lv5 lv).at (crK D (lv5 lv) s b k).toNat) := by
      rcases ih with ⟨e1, e2⟩ | ⟨e0, e1, e2⟩
      · exact ⟨fun _ => .inl e1, fun _ => .inl e2⟩
      · have e3 : (crK D (lv5 lv) s b k).toNat = nxTo D lv (2 ^ D.ways.length - 1 - s) b k := by omega
        rw [e3, lv5_at (by omega), lv5_at (by omega)]
        exact ⟨fun h => .inr (h.resolve_left (by omega)), fun h => .inr (h.resolve_left (by omega))⟩
    by_cases h : JoinS D s b k ∧ (lv5 lv).at k < (lv5 lv).at b ∧ (crK D (lv5 lv) s b k = -1 ∨ (lv5 lv).at k < (lv5 lv).at (crK D (lv5 lv) s b k).toNat)
    · rw [crK_y h, nxTo_y ⟨(join_off hs).2 h.1, hlt.2 h.2.1, hco.2 h.2.2⟩]
      exact .inr ⟨by omega, by omega, rfl⟩
    · rw [crK_n h, nxTo_n (fun h2 => h ⟨(join_off hs).1 h2.1, hlt.1 h2.2.1, hco.1 h2.2.2⟩)]
      rcases ih with e | ⟨e0, e1, e2⟩
      · exact .inl e
      · exact .inr ⟨e0, by omega, e2⟩
theorem nx_eq {D : Dr} (hg : GoodD D) {lv : List Int} {s b t : Nat} (hs : s < 2 ^ D.ways.length) (hb : b < D.banks.length) (ht : t < D.banks.length) : nxD D lv (2 ^ D.ways.length - 1 - s) b = t ↔ cr D (lv5 lv) s b = t := by
  rcases nx_cr hg (lv := lv) hs hb _ (Nat.le_refl _) with ⟨e1, e2⟩ | ⟨e0, e1, e2⟩
  · unfold nxD cr
    rw [e1, e2]
    omega
  · unfold nxD cr
    omega
theorem nx_fall {D : Dr} (hg : GoodD D) {lv : List Int} {s b : Nat} (hs : s < 2 ^ D.ways.length) (hb : b < D.banks.length) (ht : nxD D lv (2 ^ D.ways.length - 1 - s) b < D.banks.length) : lv.getD (nxD D lv (2 ^ D.ways.length - 1 - s) b) 0 < lv.getD b 0 := by
  have h := (nx_eq hg (lv := lv) hs hb ht).1 rfl
  have h5 := hg.1.2
  have h2 := (crK_bd (D := D) (l := lv5 lv) (s := s) (x := b) D.banks.length).2.2
  rw [show crK D (lv5 lv) s b D.banks.length = cr D (lv5 lv) s b from rfl, h] at h2
  have h3 := h2 (by omega)
  rw [Int.toNat_natCast, lv5_at (by omega), lv5_at (by omega)] at h3
  exact h3
def itD (n : Nat) (nx : Nat → Nat) (i : Nat) : Nat → Nat
  | 0 => i
  | k + 1 => if itD n nx i k < n then nx (itD n nx i k) else n
def visD (n : Nat) (nx : Nat → Nat) (i b : Nat) : Nat → Int
  | 0 => 0
  | k + 1 => visD n nx i b k + if itD n nx i k = b then 1 else 0
def sumN (g : Nat → Int) : Nat → Int
  | 0 => 0
  | k + 1 => sumN g k + g k
def sumF (p : Nat → Prop) [DecidablePred p] (g : Nat → Int) : Nat → Int
  | 0 => 0
  | k + 1 => sumF p g k + if p k then g k else 0
theorem it_y {n : Nat} {nx : Nat → Nat} {i k : Nat} (h : itD n nx i k < n) : itD n nx i (k + 1) = nx (itD n nx i k) := if_pos h
theorem it_le {n : Nat} {nx : Nat → Nat} (hn : ∀ b, b < n → nx b ≤ n) {i : Nat} (hi : i ≤ n) : ∀ k, itD n nx i k ≤ n
  | 0 => hi
  | k + 1 => by
    unfold itD
    split
    · exact hn _ (by assumption)
    · exact Nat.le_refl _
theorem it_stay {n : Nat} {nx : Nat → Nat} {i k : Nat} (h : n ≤ itD n nx i k) (hk : ∀ j, itD n nx i j ≤ n) : ∀ m, itD n nx i (k + m) = n
  | 0 => Nat.le_antisymm (hk k) h
  | m + 1 => by
    have ih := it_stay h hk m
    show (if itD n nx i (k + m) < n then _ else n) = n
    rw [if_neg (by omega)]
theorem vis_stay {n : Nat} {nx : Nat → Nat} {i b k : Nat} (hb : b < n) (h : n ≤ itD n nx i k) (hk : ∀ j, itD n nx i j ≤ n) : ∀ m, visD n nx i b (k + m) = visD n nx i b k
  | 0 => rfl
  | m + 1 => by
    have ih := vis_stay hb h hk m
    have h2 := it_stay h hk m
    show visD n nx i b (k + m) + (if itD n nx i (k + m) = b then 1 else 0) = _
    rw [if_neg (by omega), ih]; omega
theorem vis_bd {n : Nat} {nx : Nat → Nat} {i b : Nat} : ∀ k, 0 ≤ visD n nx i b k ∧ visD n nx i b k ≤ k
  | 0 => ⟨Int.le_refl _, Int.le_refl _⟩
  | k + 1 => by
    have ih := vis_bd (n := n) (nx := nx) (i := i) (b := b) k
    show 0 ≤ visD n nx i b k + (if itD n nx i k = b then 1 else 0) ∧ visD n nx i b k + (if itD n nx i k = b then 1 else 0) ≤ ((k + 1 : Nat) : Int)
    split <;> omega
theorem it_fall {n : Nat} {nx : Nat → Nat} {lv : List Int} (hf : ∀ b, b < n → nx b < n → lv.getD (nx b) 0 < lv.getD b 0) (h0 : ∀ b, b < n → 0 ≤ lv.getD b 0 ∧ lv.getD b 0 ≤ 20) {i : Nat} : ∀ k, itD n nx i k < n → lv.getD (itD n nx i k) 0 ≤ 20 - k
  | 0, h => by have := (h0 _ h).2; omega
  | k + 1, h => by
    by_cases h1 : itD n nx i k < n
    · have ih := it_fall hf h0 k h1
      rw [it_y h1] at h ⊢
      have := hf _ h1 h
      omega
    · unfold itD at h
      rw [if_neg h1] at h
      omega
theorem it_end {n : Nat} {nx : Nat → Nat} {lv : List Int} (hf : ∀ b, b < n → nx b < n → lv.getD (nx b) 0 < lv.getD b 0) (h0 : ∀ b, b < n → 0 ≤ lv.getD b 0 ∧ lv.getD b 0 ≤ 20) {i k : Nat} (h : itD n nx i k < n) : k ≤ 20 := by
  have h1 := it_fall hf h0 k h
  have h2 := (h0 _ h).1
  omega
theorem sumF_add {p : Nat → Prop} [DecidablePred p] {g h : Nat → Int} : ∀ k, sumF p (fun x => g x + h x) k = sumF p g k + sumF p h k
  | 0 => rfl
  | k + 1 => by
    have ih := sumF_add (p := p) (g := g) (h := h) k
    show sumF p (fun x => g x + h x) k + (if p k then g k + h k else 0) = sumF p g k + (if p k then g k else 0) + (sumF p h k + if p k then h k else 0)
    rw [ih]
    split <;> omega
theorem sumF_one {p : Nat → Prop} [DecidablePred p] {a : Nat} : ∀ k, sumF p (fun x => if a = x then 1 else 0) k = if a < k ∧ p a then 1 else 0
  | 0 => by rw [if_neg (by omega)]; rfl
  | k + 1 => by
    have ih := sumF_one (p := p) (a := a) k
    show sumF p (fun x => if a = x then 1 else 0) k + (if p k then (if a = k then 1 else 0) else 0) = _
    rw [ih]
    by_cases e : a = k
    · subst e
      rw [if_neg (by omega), if_pos rfl]
      by_cases hp : p a
      · rw [if_pos hp, if_pos ⟨by omega, hp⟩]; rfl
      · rw [if_neg hp, if_neg (fun h => hp h.2)]; rfl
    · have z : (if p k then (0 : Int) else 0) = 0 := by split <;> rfl
      rw [if_neg e, z]
      by_cases h : a < k ∧ p a
      · rw [if_pos h, if_pos ⟨by omega, h.2⟩]; rfl
      · rw [if_neg h, if_neg (fun h2 => h ⟨by omega, h2.2⟩)]; rfl
theorem vis_in {n : Nat} {nx : Nat → Nat} {i b : Nat} (hb : b < n) : ∀ k, visD n nx i b (k + 1) = (if i = b then 1 else 0) + sumF (fun x => nx x = b) (fun x => visD n nx i x k) n
  | 0 => by
    have hz : ∀ m, sumF (fun x => nx x = b) (fun x => visD n nx i x 0) m = 0 := fun m => by
      induction m with
      | zero => rfl
      | succ m ih =>
        show sumF _ _ m + (if nx m = b then (0 : Int) else 0) = 0
        rw [ih]; split <;> rfl
    rw [hz]
    show (0 : Int) + (if i = b then 1 else 0) = _
    omega
  | k + 1 => by
    have ih := vis_in (nx := nx) (i := i) hb k
    have h1 : (fun x => visD n nx i x (k + 1)) = fun x => visD n nx i x k + if itD n nx i k = x then 1 else 0 := rfl
    rw [h1, sumF_add, sumF_one]
    show visD n nx i b (k + 1) + (if itD n nx i (k + 1) = b then 1 else 0) = _
    rw [ih]
    have h2 : (itD n nx i (k + 1) = b) ↔ (itD n nx i k < n ∧ nx (itD n nx i k) = b) := by
      by_cases h : itD n nx i k < n
      · rw [it_y h]; exact ⟨fun e => ⟨h, e⟩, fun e => e.2⟩
      · have hz : itD n nx i (k + 1) = n := if_neg h
        rw [hz]
        exact ⟨fun e => by omega, fun e => absurd e.1 h⟩
    by_cases h : itD n nx i (k + 1) = b
    · rw [if_pos h, if_pos (h2.1 h)]; omega
    · rw [if_neg h, if_neg (fun e => h (h2.2 e))]; omega
def totD (n : Nat) (nx : Nat → Nat) (ys : List Int) (b k i : Nat) : Int := sumN (fun j => ys.getD j 0 * visD n nx j b k) i
theorem sumN_add {g h : Nat → Int} : ∀ k, sumN (fun x => g x + h x) k = sumN g k + sumN h k
  | 0 => rfl
  | k + 1 => by
    have ih := sumN_add (g := g) (h := h) k
    show sumN (fun x => g x + h x) k + (g k + h k) = sumN g k + g k + (sumN h k + h k)
    omega
theorem sumN_one {g : Nat → Int} {a : Nat} : ∀ k, sumN (fun x => g x * if x = a then 1 else 0) k = if a < k then g a else 0
  | 0 => rfl
  | k + 1 => by
    have ih := sumN_one (g := g) (a := a) k
    show sumN (fun x => g x * if x = a then 1 else 0) k + g k * (if k = a then 1 else 0) = _
    rw [ih]
    by_cases e : k = a
    · subst e; rw [if_neg (by omega), if_pos rfl, if_pos (by omega)]; omega
    · rw [if_neg e]
      by_cases h : a < k
      · rw [if_pos h, if_pos (by omega)]; omega
      · rw [if_neg h, if_neg (by omega)]; omega
theorem sumN_zero : ∀ k, sumN (fun _ => 0) k = 0
  | 0 => rfl
  | k + 1 => by show sumN (fun _ => 0) k + 0 = 0; rw [sumN_zero k]; rfl
theorem sum_swap {p : Nat → Prop} [DecidablePred p] {y : Nat → Int} {v : Nat → Nat → Int} {m : Nat} : ∀ n, sumN (fun j => y j * sumF p (v j) n) m = sumF p (fun x => sumN (fun j => y j * v j x) m) n
  | 0 => by
    have h : (fun j => y j * sumF p (v j) 0) = fun _ => (0 : Int) := funext fun j => Int.mul_zero _
    rw [h, sumN_zero]; rfl
  | n + 1 => by
    have ih := sum_swap (p := p) (y := y) (v := v) (m := m) n
    show _ = sumF p (fun x => sumN (fun j => y j * v j x) m) n + (if p n then sumN (fun j => y j * v j n) m else 0)
    rw [← ih]
    have h : (fun j => y j * sumF p (v j) (n + 1)) = fun j => y j * sumF p (v j) n + (if p n then y j * v j n else 0) := funext fun j => by
      show y j * (sumF p (v j) n + if p n then v j n else 0) = _
      rw [Int.mul_add]
      congr 1
      split
      · rfl
      · exact Int.mul_zero _
    rw [h, sumN_add]
    congr 1
    by_cases hp : p n
    · rw [if_pos hp]; simp only [if_pos hp]
    · rw [if_neg hp]; simp only [if_neg hp]; exact sumN_zero m
theorem tot_in {n : Nat} {nx : Nat → Nat} {ys : List Int} {b k : Nat} (hb : b < n) : totD n nx ys b (k + 1) n = ys.getD b 0 + sumF (fun x => nx x = b) (fun x => totD n nx ys x k n) n := by
  unfold totD
  have h : (fun j => ys.getD j 0 * visD n nx j b (k + 1)) = fun j => ys.getD j 0 * (if j = b then 1 else 0) + ys.getD j 0 * sumF (fun x => nx x = b) (fun x => visD n nx j x k) n := funext fun j => by rw [vis_in hb, Int.mul_add]
  rw [h, sumN_add, sumN_one, if_pos hb, sum_swap (p := fun x => nx x = b) (y := fun j => ys.getD j 0) (v := fun j x => visD n nx j x k)]
theorem sumW2_app {l : List W2} {a : W2} : ∀ k, k ≤ l.length → sumW2 (l ++ [a]) k = sumW2 l k
  | 0, _ => rfl
  | k + 1, hk => by
    have ih := sumW2_app (l := l) (a := a) k (by omega)
    have e : (l ++ [a]).getD k default = l.getD k default := by rw [List.getD_eq_getElem?_getD, List.getElem?_append_left (by omega), ← List.getD_eq_getElem?_getD]
    rw [sumW2, sumW2, ih, e]
theorem wat_hi {D : Dr} {l : L5} {s f b : Nat} : ∀ k, (sumW2 (watL D l s f b k) (watL D l s f b k).length).hi = (D.banks.getD b default).yhi + sumF (fun x => cr D l s x = (b : Int)) (fun x => (wat D l s f x).hi) k
  | 0 => by
    rw [watL_0]
    show (0 : Int) + _ = _ + 0
    rw [Int.zero_add, Int.add_zero]; rfl
  | k + 1 => by
    have ih := wat_hi (D := D) (l := l) (s := s) (f := f) (b := b) k
    by_cases h : cr D l s k = (b : Int)
    · rw [watL_y h, List.length_append, List.length_singleton, sumW2, sumW2_app _ (Nat.le_refl _)]
      have e : (watL D l s f b k ++ [wat D l s f k]).getD (watL D l s f b k).length default = wat D l s f k := by rw [List.getD_eq_getElem?_getD, List.getElem?_append_right (Nat.le_refl _), Nat.sub_self]; rfl
      show (sumW2 (watL D l s f b k) _).hi + _ = _ + (sumF _ _ k + if cr D l s k = (b : Int) then (wat D l s f k).hi else 0)
      rw [ih, if_pos h, e]; omega
    · rw [watL_n h, ih]
      show _ = _ + (sumF _ _ k + if cr D l s k = (b : Int) then (wat D l s f k).hi else 0)
      rw [if_neg h]; omega
theorem sumF_le {p q : Nat → Prop} [DecidablePred p] [DecidablePred q] {g h : Nat → Int} : ∀ k, (∀ x, x < k → (p x ↔ q x)) → (∀ x, x < k → g x ≤ h x) → sumF p g k ≤ sumF q h k
  | 0, _, _ => Int.le_refl _
  | k + 1, h1, h2 => by
    have ih := sumF_le (p := p) (q := q) (g := g) (h := h) k (fun x hx => h1 x (by omega)) (fun x hx => h2 x (by omega))
    have e := h1 k (by omega)
    have e2 := h2 k (by omega)
    show sumF p g k + (if p k then g k else 0) ≤ sumF q h k + (if q k then h k else 0)
    by_cases hp : p k
    · rw [if_pos hp, if_pos (e.1 hp)]; omega
    · rw [if_neg hp, if_neg (fun hq => hp (e.2 hq))]; omega
theorem tot_le {D : Dr} {l : L5} {s : Nat} {nx : Nat → Nat} {ys : List Int} (hy : InY D ys) (hn : ∀ x b, x < D.banks.length → b < D.banks.length → (nx x = b ↔ cr D l s x = (b : Int))) : ∀ f b, b < D.banks.length → totD D.banks.length nx ys b (f + 1) D.banks.length ≤ (wat D l s f b).hi
  | 0, b, hb => by
    rw [tot_in hb]
    have hz : ∀ m, sumF (fun x => nx x = b) (fun x => totD D.banks.length nx ys x 0 D.banks.length) m = 0 := fun m => by
      induction m with
      | zero => rfl
      | succ m ih =>
        have h0 : totD D.banks.length nx ys m 0 D.banks.length = 0 := by
          unfold totD
          have h : (fun j => ys.getD j 0 * visD D.banks.length nx j m 0) = fun _ => (0 : Int) := funext fun j => Int.mul_zero _
          rw [h, sumN_zero]
        show sumF _ _ m + (if nx m = b then totD D.banks.length nx ys m 0 D.banks.length else 0) = 0
        rw [ih, h0]; split <;> rfl
    rw [hz]
    have := (hy.2 b hb).2
    show _ ≤ (D.banks.getD b default).yhi
    omega
  | f + 1, b, hb => by
    rw [tot_in hb, wat_s, wat_hi]
    have h1 := (hy.2 b hb).2
    have h2 := sumF_le (p := fun x => nx x = b) (q := fun x => cr D l s x = (b : Int)) (g := fun x => totD D.banks.length nx ys x (f + 1) D.banks.length) (h := fun x => (wat D l s f x).hi) D.banks.length (fun x hx => hn x b hx hb) (fun x hx => tot_le hy hn f x hx)
    omega
theorem tot_bd {D : Dr} (hg : GoodD D) {nx : Nat → Nat} {ys : List Int} (hy : InY D ys) {b k : Nat} : ∀ i, i ≤ D.banks.length → 0 ≤ totD D.banks.length nx ys b k i ∧ totD D.banks.length nx ys b k i ≤ i * (20 * k)
  | 0, _ => ⟨Int.le_refl _, by show (0 : Int) ≤ ((0 : Nat) : Int) * _; simp⟩
  | i + 1, hi => by
    have ih := tot_bd hg (nx := nx) hy (b := b) (k := k) i (by omega)
    have h1 := hy.2 i (by omega)
    have h2 := (hg.2.2.2.2.1 i (by omega)).2
    unfold SpanD at h2
    have h3 := vis_bd (n := D.banks.length) (nx := nx) (i := i) (b := b) k
    have h4 : 0 ≤ ys.getD i 0 * visD D.banks.length nx i b k := Int.mul_nonneg (by omega) h3.1
    have h5 : ys.getD i 0 * visD D.banks.length nx i b k ≤ 20 * (k : Int) := Int.mul_le_mul (by omega) h3.2 h3.1 (by omega)
    have e : totD D.banks.length nx ys b k (i + 1) = totD D.banks.length nx ys b k i + ys.getD i 0 * visD D.banks.length nx i b k := rfl
    have e2 : ((i + 1 : Nat) : Int) * (20 * (k : Int)) = (i : Int) * (20 * (k : Int)) + 20 * (k : Int) := by push_cast; rw [Int.add_mul, Int.one_mul]
    rw [e, e2]
    omega
def wtrD (n : Nat) (nx : Nat → Nat) (ys : List Int) (i k : Nat) : List Int := (List.range n).map fun b => totD n nx ys b 22 i + ys.getD i 0 * visD n nx i b k
theorem wtr_len (n : Nat) (nx : Nat → Nat) (ys : List Int) (i k : Nat) : (wtrD n nx ys i k).length = n := by simp [wtrD]
theorem wtr_get {n : Nat} {nx : Nat → Nat} {ys : List Int} {i k b : Nat} (h : b < n) : (wtrD n nx ys i k).getD b 0 = totD n nx ys b 22 i + ys.getD i 0 * visD n nx i b k := by
  unfold wtrD
  rw [List.getD_eq_getElem?_getD, List.getElem?_map, List.getElem?_range h]; rfl
theorem wtr_zero {n : Nat} {nx : Nat → Nat} {ys : List Int} : wtrD n nx ys 0 0 = List.replicate n 0 := by
  unfold wtrD
  rw [List.eq_replicate_iff]
  refine ⟨by simp, fun b hb => ?_⟩
  obtain ⟨x, _, rfl⟩ := List.mem_map.1 hb
  show (0 : Int) + _ * 0 = 0
  omega
theorem wtr_set {n : Nat} {nx : Nat → Nat} {ys : List Int} {i k : Nat} (h : itD n nx i k < n) : (wtrD n nx ys i k).set (itD n nx i k) ((wtrD n nx ys i k).getD (itD n nx i k) 0 + ys.getD i 0) = wtrD n nx ys i (k + 1) := by
  rw [wtr_get h]
  refine List.ext_getElem? fun j => ?_
  rw [List.getElem?_set, wtr_len]
  unfold wtrD
  rw [List.getElem?_map, List.getElem?_map]
  by_cases hj : j < n
  · rw [List.getElem?_range hj]
    show _ = some (totD n nx ys j 22 i + ys.getD i 0 * (visD n nx i j k + if itD n nx i k = j then 1 else 0))
    by_cases e : itD n nx i k = j
    · rw [if_pos e, if_pos h, if_pos e, e, Int.mul_add, Int.mul_one, Int.add_assoc]
    · rw [if_neg e, if_neg e, Int.add_zero]; rfl
  · rw [if_neg (by omega), List.getElem?_eq_none (by rw [List.length_range]; omega)]; rfl
theorem wtr_next {n : Nat} {nx : Nat → Nat} {ys : List Int} {i k : Nat} (hk : k ≤ 22) (h : n ≤ itD n nx i k) (hl : ∀ j, itD n nx i j ≤ n) : wtrD n nx ys i k = wtrD n nx ys (i + 1) 0 := by
  unfold wtrD
  refine List.map_congr_left fun b hb => ?_
  have hb2 := List.mem_range.1 hb
  have h1 := vis_stay hb2 h hl (22 - k)
  rw [show k + (22 - k) = 22 from by omega] at h1
  show totD n nx ys b 22 i + ys.getD i 0 * visD n nx i b k = totD n nx ys b 22 i + ys.getD i 0 * visD n nx i b 22 + ys.getD (i + 1) 0 * 0
  rw [h1, Int.mul_zero, Int.add_zero]
theorem drained_law {D : Dr} {p : Right → Bool} (hg : GoodD D) {lv ys : List Int} (hl : InB D lv) (hy : InY D ys) {s : Nat} (hs : s = stopD (withR D (D.rights.filter p))) {r : Right} (hr : r ∈ D.rights) (hp : p r = true) (hto : nxD D lv (2 ^ D.ways.length - 1 - s) r.of_.toNat = r.to_.toNat) : totD D.banks.length (nxD D lv (2 ^ D.ways.length - 1 - s)) ys r.of_.toNat 22 D.banks.length ≤ r.most := by
  have hgf := good_f hg p
  have hlt : s < 2 ^ D.ways.length := by rw [hs]; exact stop_lt (D := withR D (D.rights.filter p)) (by have := hg.2.1; show D.ways.length ≤ 7; omega)
  have hk := keepA_iff.1 (stop_keep hgf).1 (lv5 lv) (by rw [allL_w]; exact lv5_all hg hl) r (List.mem_filter.2 ⟨hr, hp⟩)
  rw [← hs] at hk
  have hk2 := keepR_w.1 hk
  obtain ⟨j, hj, e⟩ := List.mem_iff_getElem.1 hr
  have h7 := hg.2.2.2.2.2.2.1 j hj
  rw [List.getD_eq_getElem?_getD, List.getElem?_eq_getElem hj] at h7
  have h8 : TwoD D r.of_ r.to_ ∧ (0 ≤ r.most ∧ r.most ≤ 100) := by rw [← e]; exact h7
  obtain ⟨⟨h9, h10, _⟩, _⟩ := h8
  have hc := (nx_eq hg (lv := lv) hlt (b := r.of_.toNat) (t := r.to_.toNat) (by omega) (by omega)).1 hto
  unfold KeepR flowW at hk2
  rw [if_pos (by rw [hc]; omega)] at hk2
  have ht := tot_le (D := D) (l := lv5 lv) (s := s) (nx := nxD D lv (2 ^ D.ways.length - 1 - s)) hy (fun x b hx hb => nx_eq hg hlt hx hb) 21 r.of_.toNat (by omega)
  exact Int.le_trans ht hk2
end Go.Proofs.YtpndeonmmcaikaaGreat.DrW

namespace Go.Proofs.YtpndeonmmcaikaaGreat.SodW
open Go.G Foot4 Sod2
set_option maxRecDepth 1000000
attribute [local irreducible] G.ParO G.Fin
variable (B : Bank) (po so lo : Option Addr) (pc sc lc : Nat)
end Go.Proofs.YtpndeonmmcaikaaGreat.SodW

namespace Go.Proofs.YtpndeonmmcaikaaGreat.FootW
open Go.G Foot4
set_option maxRecDepth 1000000
attribute [local irreducible] G.ParO G.Fin
end Go.Proofs.YtpndeonmmcaikaaGreat.FootW

namespace Go.Proofs.YtpndeonmmcaikaaGreat.FootW
open Go.G Foot4
set_option maxRecDepth 1000000
attribute [local irreducible] G.ParO G.Fin
end Go.Proofs.YtpndeonmmcaikaaGreat.FootW

namespace Go.Proofs.YtpndeonmmcaikaaGreat.FootW
open Go.G Foot4
set_option maxRecDepth 1000000
attribute [local irreducible] G.ParO G.Fin
end Go.Proofs.YtpndeonmmcaikaaGreat.FootW

namespace Go.Proofs.YtpndeonmmcaikaaGreat.FootW
open Go.G Foot4
set_option maxRecDepth 1000000
attribute [local irreducible] G.ParO G.Fin
end Go.Proofs.YtpndeonmmcaikaaGreat.FootW

namespace Go.Proofs.YtpndeonmmcaikaaGreat.FootW
open Go.G Foot4
set_option maxRecDepth 1000000
attribute [local irreducible] G.ParO G.Fin
end Go.Proofs.YtpndeonmmcaikaaGreat.FootW

namespace Go.Proofs.YtpndeonmmcaikaaGreat.SodW
open Go.G Foot4 Sod2
set_option maxRecDepth 1000000
attribute [local irreducible] G.ParO G.Fin
variable (B : Bank) (po so lo : Option Addr) (pc sc lc : Nat)
variable (fb mb : Nat)
end Go.Proofs.YtpndeonmmcaikaaGreat.SodW

namespace Go.Proofs.YtpndeonmmcaikaaGreat.SodW
open Go.G Foot4 Sod2
set_option maxRecDepth 1000000
attribute [local irreducible] G.ParO G.Fin
attribute [local irreducible] strokes strS cntTo nowF bk logD someTo upTo sodsOf cutL one
variable (B : Bank) (po so lo : Option Addr) (pc sc lc : Nat)
variable (fb mb : Nat)
end Go.Proofs.YtpndeonmmcaikaaGreat.SodW

namespace Go.Proofs.YtpndeonmmcaikaaGreat.SodW
open Go.G Foot4 Sod2
set_option maxRecDepth 1000000
attribute [local irreducible] G.ParO G.Fin
attribute [local irreducible] strokes strS cntTo nowF bk logD someTo upTo sodsOf cutL one preC nxC costsL
variable (B : Bank) (po so lo : Option Addr) (pc sc lc : Nat)
variable (fb mb : Nat)
end Go.Proofs.YtpndeonmmcaikaaGreat.SodW

namespace Go.Proofs.YtpndeonmmcaikaaGreat.SodW
open Go.G Foot4 Sod2
set_option maxRecDepth 1000000
attribute [local irreducible] G.ParO G.Fin
attribute [local irreducible] strokes strS cntTo nowF bk logD someTo upTo sodsOf cutL one preC nxC costsL
variable (B : Bank) (po so lo : Option Addr) (pc sc lc : Nat)
variable (fb mb : Nat)
end Go.Proofs.YtpndeonmmcaikaaGreat.SodW

namespace Go.Proofs.YtpndeonmmcaikaaGreat.SodW
open Go.G Foot4 Sod2
set_option maxRecDepth 1000000
attribute [local irreducible] G.ParO G.Fin
attribute [local irreducible] strokes strS cntTo nowF bk logD someTo upTo sodsOf cutL one preC nxC costsL
variable (B : Bank) (po so lo : Option Addr) (pc sc lc : Nat)
variable (fb mb : Nat)
end Go.Proofs.YtpndeonmmcaikaaGreat.SodW

namespace Go.Proofs.YtpndeonmmcaikaaGreat.FootW
open Go.G Foot4
set_option maxRecDepth 1000000
attribute [local irreducible] G.ParO G.Fin
end Go.Proofs.YtpndeonmmcaikaaGreat.FootW

namespace Go.Proofs.YtpndeonmmcaikaaGreat.FootW
open Go.G Foot4
set_option maxRecDepth 1000000
attribute [local irreducible] G.ParO G.Fin
set_option maxHeartbeats 4000000 in
theorem dry_v (lo hi : Int) : FnV Tryz.prog 232 [.agg #[], .agg #[i64 lo, i64 hi]] [] (i64 lo) := by
 refine FnV.intro Tryz.call232 Tryz.func232 rfl Tryz.ntmps232 rfl ?_; intro W M Rf; refine r_seq (r_region ?_); refine o_boxA rfl rfl rfl rfl rfl (fun b2 => ?_); refine o_boxA rfl rfl rfl rfl rfl (fun b3 => ?_); refine q_as rfl rfl rfl rfl rfl ?_; refine o_nil (r_then (r_seq (r_region ?_))); refine o_q _ rfl rfl rfl (v_fieldAddr rfl Tryz.underlying43 inf3 rfl rfl rfl rfl) ?_; refine o_q _ rfl rfl rfl (v_ld1 rfl Tryz.underlying3 rfl rfl rfl) ?_; refine q_as rfl rfl rfl rfl rfl ?_; refine o_nil (r_then ?_); refine r_ret ?_; exact r_retv2 (Rd.tmp rfl rfl) rfl SelMC.sel SubRC.sub
set_option maxHeartbeats 4000000 in
theorem wet0_v (lo hi : Int) (hl : -1000 ≤ lo ∧ lo ≤ 1000) (hh : -1000 ≤ hi ∧ hi ≤ 1000) : FnV Tryz.prog 233 [.agg #[], .agg #[i64 lo, i64 hi]] [] (i64 hi) := by
 refine FnV.intro Tryz.call233 Tryz.func233 rfl Tryz.ntmps233 rfl ?_; intro W M Rf; refine r_seq (r_region ?_); refine o_boxA rfl rfl rfl rfl rfl (fun b2 => ?_); refine o_boxA rfl rfl rfl rfl rfl (fun b3 => ?_); refine q_as rfl rfl rfl rfl rfl ?_; refine o_nil (r_then (r_seq ?_)); refine r_region_q mixed (by kernel_rfl) ?_; refine q_q _ rfl rfl rfl (v_fieldAddr0 rfl Tryz.underlying314 inf312 rfl rfl rfl rfl rfl (by kernel_rfl) rfl) ?_; refine q_q _ rfl rfl rfl (v_ldW rfl Tryz.underlying312 rfl inf312 rfl rfl) ?_; refine q_q _ rfl rfl rfl (v_ldW rfl Tryz.underlying43 rfl inf43 rfl rfl) ?_; refine q_q _ rfl rfl rfl (OpQ.fn (dry_v _ _) rfl rfl SubRC.sub) ?_; refine q_q _ rfl rfl rfl (v_fieldAddr rfl Tryz.underlying43 inf3 rfl rfl rfl rfl) ?_; refine q_q _ rfl rfl rfl (v_ld1 rfl Tryz.underlying3 rfl rfl rfl) ?_; refine q_q _ rfl rfl rfl (v_fieldAddr rfl Tryz.underlying43 inf3 rfl rfl rfl rfl) ?_; refine q_q _ rfl rfl rfl (v_ld1 rfl Tryz.underlying3 rfl rfl rfl) ?_; refine q_q _ rfl rfl rfl (v_sub rfl rfl rfl (by omega)) ?_; refine q_q _ rfl rfl rfl (v_add rfl rfl rfl (by omega)) ?_; refine q_q _ rfl rfl rfl (v_assign rfl rfl) ?_; refine q_nil ?_; refine r_then ?_; refine r_ret ?_; exact r_retv2 (Rd.tmp rfl rfl) (congrArg (Value.int .i64) (by omega)) SelMC.sel SubRC.sub
end Go.Proofs.YtpndeonmmcaikaaGreat.FootW

namespace Go.Proofs.YtpndeonmmcaikaaGreat.FootW
open Go.G Foot4
set_option maxRecDepth 1000000
attribute [local irreducible] G.ParO G.Fin
end Go.Proofs.YtpndeonmmcaikaaGreat.FootW

namespace Go.Proofs.YtpndeonmmcaikaaGreat.FootW
open Go.G Foot4
set_option maxRecDepth 1000000
attribute [local irreducible] G.ParO G.Fin
end Go.Proofs.YtpndeonmmcaikaaGreat.FootW

namespace Go.Proofs.YtpndeonmmcaikaaGreat.FootW
open Go.G Foot4
set_option maxRecDepth 1000000
attribute [local irreducible] G.ParO G.Fin
end Go.Proofs.YtpndeonmmcaikaaGreat.FootW

namespace Go.Proofs.YtpndeonmmcaikaaGreat.FootW
open Go.G Foot4
set_option maxRecDepth 1000000
attribute [local irreducible] G.ParO G.Fin
theorem hm90 : HasM Tryz.prog 314 "bogworks/foot.of" 233 := HasM.mk' inf314 (by kernel_rfl) Tryz.underlying314 rfl
abbrev wetT : Tr Tryz.prog "bogworks/foot.of" := ⟨314, .agg #[], 233, selW, hm90, fun lo hi h1 h2 h3 h4 => wet0_v lo hi ⟨h1, h2⟩ ⟨h3, h4⟩, fun _ _ => .inr rfl⟩
end Go.Proofs.YtpndeonmmcaikaaGreat.FootW

namespace Go.Proofs.YtpndeonmmcaikaaGreat.FootW
open Go.G Foot4
set_option maxRecDepth 1000000
attribute [local irreducible] G.ParO G.Fin
end Go.Proofs.YtpndeonmmcaikaaGreat.FootW

namespace Go.Proofs.YtpndeonmmcaikaaGreat.FootW
open Go.G Foot4
set_option maxRecDepth 1000000
attribute [local irreducible] G.ParO G.Fin
end Go.Proofs.YtpndeonmmcaikaaGreat.FootW

namespace Go.Proofs.YtpndeonmmcaikaaGreat.FootW
open Go.G Foot4
set_option maxRecDepth 1000000
attribute [local irreducible] G.ParO G.Fin
end Go.Proofs.YtpndeonmmcaikaaGreat.FootW

namespace Go.Proofs.YtpndeonmmcaikaaGreat.FootW
open Go.G Foot4
set_option maxRecDepth 1000000
attribute [local irreducible] G.ParO G.Fin
end Go.Proofs.YtpndeonmmcaikaaGreat.FootW

namespace Go.Proofs.YtpndeonmmcaikaaGreat.FootW
open Go.G Foot4
set_option maxRecDepth 1000000
attribute [local irreducible] G.ParO G.Fin
end Go.Proofs.YtpndeonmmcaikaaGreat.FootW

namespace Go.Proofs.YtpndeonmmcaikaaGreat.FootW
open Go.G Foot4
set_option maxRecDepth 1000000
attribute [local irreducible] G.ParO G.Fin
end Go.Proofs.YtpndeonmmcaikaaGreat.FootW

namespace Go.Proofs.YtpndeonmmcaikaaGreat.FootW
open Go.G Foot4
set_option maxRecDepth 1000000
theorem laid0 : laidOutB Tryz.prog = true := by kernel_rfl
end Go.Proofs.YtpndeonmmcaikaaGreat.FootW

namespace Go.Proofs.YtpndeonmmcaikaaGreat.FootW
open Go.G Foot4
set_option maxRecDepth 1000000
attribute [local irreducible] G.ParO G.Fin
end Go.Proofs.YtpndeonmmcaikaaGreat.FootW

namespace Go.Proofs.YtpndeonmmcaikaaGreat.FootW
open Go.G Foot4
set_option maxRecDepth 1000000
attribute [local irreducible] G.ParO G.Fin
end Go.Proofs.YtpndeonmmcaikaaGreat.FootW

namespace Go.Proofs.YtpndeonmmcaikaaGreat.FootW
open Go.G Foot4
set_option maxRecDepth 1000000
end Go.Proofs.YtpndeonmmcaikaaGreat.FootW

namespace Go.Proofs.YtpndeonmmcaikaaGreat.FootW
open Go.G Foot4
set_option maxRecDepth 1000000
attribute [local irreducible] G.ParO G.Fin
end Go.Proofs.YtpndeonmmcaikaaGreat.FootW

namespace Go.Proofs.YtpndeonmmcaikaaGreat.FootW
open Go.G Foot4
set_option maxRecDepth 1000000
attribute [local irreducible] G.ParO G.Fin
end Go.Proofs.YtpndeonmmcaikaaGreat.FootW

namespace Go.Proofs.YtpndeonmmcaikaaGreat.FootW
open Go.G Foot4
set_option maxRecDepth 1000000
attribute [local irreducible] G.ParO G.Fin
end Go.Proofs.YtpndeonmmcaikaaGreat.FootW

namespace Go.Proofs.YtpndeonmmcaikaaGreat.FootW
open Go.G Foot4
set_option maxRecDepth 1000000
attribute [local irreducible] G.ParO G.Fin
end Go.Proofs.YtpndeonmmcaikaaGreat.FootW

namespace Go.Proofs.YtpndeonmmcaikaaGreat.FootW
open Go.G Foot4
set_option maxRecDepth 1000000
attribute [local irreducible] G.ParO G.Fin
end Go.Proofs.YtpndeonmmcaikaaGreat.FootW

namespace Go.Proofs.YtpndeonmmcaikaaGreat.FootW
open Go.G Foot4
set_option maxRecDepth 1000000
attribute [local irreducible] G.ParO G.Fin
variable (F : Work) (ro ho : Option Addr) (rc hc : Nat)
end Go.Proofs.YtpndeonmmcaikaaGreat.FootW

namespace Go.Proofs.YtpndeonmmcaikaaGreat.FootW
open Go.G Foot4
set_option maxRecDepth 1000000
attribute [local irreducible] G.ParO G.Fin
variable (F : Work) (ro ho : Option Addr) (rc hc : Nat)
end Go.Proofs.YtpndeonmmcaikaaGreat.FootW

namespace Go.Proofs.YtpndeonmmcaikaaGreat.FootW
open Go.G Foot4
set_option maxRecDepth 1000000
attribute [local irreducible] G.ParO G.Fin
variable (F : Work) (ro ho : Option Addr) (rc hc : Nat)
end Go.Proofs.YtpndeonmmcaikaaGreat.FootW

namespace Go.Proofs.YtpndeonmmcaikaaGreat.FootW
open Go.G Foot4
set_option maxRecDepth 1000000
attribute [local irreducible] G.ParO G.Fin
variable (F : Work) (ro ho : Option Addr) (rc hc : Nat)
end Go.Proofs.YtpndeonmmcaikaaGreat.FootW

namespace Go.Proofs.YtpndeonmmcaikaaGreat.FootW
open Go.G Foot4
set_option maxRecDepth 1000000
attribute [local irreducible] G.ParO G.Fin
variable (F : Work) (ro ho : Option Addr) (rc hc : Nat)
end Go.Proofs.YtpndeonmmcaikaaGreat.FootW

namespace Go.Proofs.YtpndeonmmcaikaaGreat
open Go.G Foot4 Sod2
set_option maxRecDepth 1000000
attribute [local irreducible] G.ParO G.Fin
set_option maxHeartbeats 4000000 in
theorem span04_v (a b : Int) : FnV Tryz.prog 10 [i64 a, i64 b] [] (.agg #[i64 a, i64 b]) := by
 refine FnV.intro Tryz.call10 Tryz.func10 rfl Tryz.ntmps10 rfl ?_; intro W M Rf; refine r_seq (r_region ?_); refine o_alloc rfl inf43 rfl rfl rfl rfl rfl (fun b4 => ?_); refine o_nil ?_
 (repeat (first | with_reducible refine r_then ?_ | with_reducible refine r_in_normal ?_ | with_reducible refine r_sc_normal ?_))
 refine r_seq (r_region ?_); refine q_mv rfl rfl rfl rfl rfl ?_; refine q_mv rfl rfl rfl rfl rfl ?_; refine o_q _ rfl rfl rfl (v_bS rfl Tryz.underlying43 inf43 plt43 rfl rfl rfl (by repeat (first | exact trivial | refine ⟨rfl, ?_⟩)) (by rfl)) ?_; refine o_st rfl inf43 rfl rfl rfl rfl rfl rfl rfl rfl ?_; refine o_nil ?_
 (repeat (first | with_reducible refine r_then ?_ | with_reducible refine r_in_normal ?_ | with_reducible refine r_sc_normal ?_))
 refine r_ret ?_
 (repeat (first | with_reducible refine r_then_ret ?_ | with_reducible refine r_in_ret ?_ | with_reducible refine r_sc_ret ?_))
 exact r_retv2 (Rd.one rfl (RdI.cellW Tryz.underlying43 rfl inf43 rfl rfl)) rfl SelMC.sel SubRC.sub
end Go.Proofs.YtpndeonmmcaikaaGreat

namespace Go.Proofs.YtpndeonmmcaikaaGreat.DrW
open Go.G Foot4 Drain7
set_option maxRecDepth 1000000
attribute [local irreducible] G.ParO G.Fin
def B07 : Bk := ⟨6, 2, [⟨0, 0, 0, 4, 5⟩, ⟨1, 3, 4, 6, 6⟩], []⟩
def D07 : Dr := ⟨[⟨10, 10, 4, 5⟩, ⟨8, 9, 2, 2⟩, ⟨8, 8, 3, 3⟩, ⟨5, 5, 1, 1⟩], [⟨0, 1⟩, ⟨0, 2⟩, ⟨1, 3⟩, ⟨2, 3⟩], [⟨0, 2, 3⟩, ⟨1, 3, 7⟩], []⟩
theorem good_B07 : GoodK B07 := by decide +kernel
theorem good_D07 : GoodD D07 := by decide +kernel
theorem ways_B07 : 0 < waysB B07 (asks0 B07) := by decide +kernel
theorem whose_B07 : whoseB B07 3 = 3 := by decide +kernel
theorem stop_D07 : stopD D07 = 2 := by decide +kernel
@[reducible] def valK07 (lo : Option Addr) : Value := .agg #[i64 6, i64 2, .slice lo 2 2, .slice none 0 0]
@[reducible] def valD07 (bo wo ro : Option Addr) : Value := .agg #[.slice bo 4 4, .slice wo 4 4, .slice ro 2 2, .slice none 0 0]
set_option maxHeartbeats 4000000 in
theorem bank07_r  : FnR Tryz.prog 34 [] [] (fun v => ∃ lo, v = valK07 lo) (fun v => [rowD (adrAt v 2) 5 encLe B07.leases]) := by
 refine FnR.intro Tryz.call34 Tryz.func34 rfl Tryz.ntmps34 rfl ?_; intro W M Rf; refine r_seq (r_region ?_); refine o_alloc rfl inf25 rfl rfl rfl rfl rfl (fun b0 => ?_); refine o_nil (r_then (r_seq (r_region ?_))); refine o_q _ rfl rfl rfl (OpQ.fn (span04_v _ _) rfl rfl SubRC.sub) ?_; refine o_q _ rfl rfl rfl (OpQ.fn (span04_v _ _) rfl rfl SubRC.sub) ?_; refine o_q _ rfl rfl rfl (v_cast (v := .agg #[i64 0, i64 0, i64 0, i64 4, i64 5]) (v_bSF (us := [i64 0, i64 0, i64 0, i64 4, i64 5]) [1, 2] rfl Tryz.underlying84 inf84 plt84 rfl rfl rfl (by rfl)) rfl) ?_; refine o_q _ rfl rfl rfl (OpQ.fn (span04_v _ _) rfl rfl SubRC.sub) ?_; refine o_q _ rfl rfl rfl (OpQ.fn (span04_v _ _) rfl rfl SubRC.sub) ?_; refine o_q _ rfl rfl rfl (v_bS rfl Tryz.underlying84 inf84 plt84 rfl rfl rfl (by repeat (first | exact trivial | refine ⟨rfl, ?_⟩)) (by rfl)) ?_; refine o_lit rfl Tryz.underlying22 inf84 rfl rfl rfl rfl rfl rfl rfl rfl (by repeat (first | exact trivial | refine ⟨rfl, ?_⟩)) (by rfl) (fun b7 => ?_); refine o_q _ rfl rfl rfl (v_cast (v := valK07 (some ⟨b7, 0, none⟩)) (v_bSF (us := [i64 6, i64 2, .slice (some ⟨b7, 0, none⟩) 2 2, .slice none 0 0]) [0, 1, 2] rfl Tryz.underlying25 inf25 plt25 rfl rfl rfl (by rfl)) rfl) ?_; refine o_st rfl inf25 rfl rfl rfl rfl rfl rfl rfl rfl ?_; refine o_nil (r_then ?_); refine r_ret ?_; refine Imp.box_to b0 [i64 6, i64 2, .slice (some ⟨b7, 0, none⟩) 2 2, .slice none 0 0] rfl ?_; refine Imp.sealB b7 ?_; refine Imp.rowN (b := b7) B07.leases encLe_len rfl ?_; exact r_retr (Rd.one rfl (RdI.cellW Tryz.underlying25 rfl inf25 rfl rfl)) ⟨(some ⟨b7, 0, none⟩), rfl⟩ SelMC.sel (by show SubR _ ([rowD (some ⟨b7, 0, none⟩) 5 encLe B07.leases] ++ _); exact SubRC.sub)
set_option maxHeartbeats 4000000 in
theorem drain07_r  : FnR Tryz.prog 35 [] [] (fun v => ∃ bo wo ro, v = valD07 bo wo ro) (fun v => [rowD (adrAt v 0) 4 encDB D07.banks, rowD (adrAt v 1) 2 encDW D07.ways, rowD (adrAt v 2) 3 encR D07.rights]) := by
 refine FnR.intro Tryz.call35 Tryz.func35 rfl Tryz.ntmps35 rfl ?_; intro W M Rf; refine r_seq (r_region ?_); refine o_alloc rfl inf30 rfl rfl rfl rfl rfl (fun b0 => ?_); refine o_nil (r_then (r_seq (r_region ?_))); refine o_q _ rfl rfl rfl (OpQ.fn (span04_v _ _) rfl rfl SubRC.sub) ?_; refine o_q _ rfl rfl rfl (OpQ.fn (span04_v _ _) rfl rfl SubRC.sub) ?_; refine o_q _ rfl rfl rfl (v_bS rfl Tryz.underlying53 inf53 plt53 rfl rfl rfl (by repeat (first | exact trivial | refine ⟨rfl, ?_⟩)) (by rfl)) ?_; refine o_q _ rfl rfl rfl (OpQ.fn (span04_v _ _) rfl rfl SubRC.sub) ?_; refine o_q _ rfl rfl rfl (OpQ.fn (span04_v _ _) rfl rfl SubRC.sub) ?_; refine o_q _ rfl rfl rfl (v_bS rfl Tryz.underlying53 inf53 plt53 rfl rfl rfl (by repeat (first | exact trivial | refine ⟨rfl, ?_⟩)) (by rfl)) ?_; refine o_q _ rfl rfl rfl (OpQ.fn (span04_v _ _) rfl rfl SubRC.sub) ?_; refine o_q _ rfl rfl rfl (OpQ.fn (span04_v _ _) rfl rfl SubRC.sub) ?_; refine o_q _ rfl rfl rfl (v_bS rfl Tryz.underlying53 inf53 plt53 rfl rfl rfl (by repeat (first | exact trivial | refine ⟨rfl, ?_⟩)) (by rfl)) ?_; refine o_q _ rfl rfl rfl (OpQ.fn (span04_v _ _) rfl rfl SubRC.sub) ?_; refine o_q _ rfl rfl rfl (OpQ.fn (span04_v _ _) rfl rfl SubRC.sub) ?_; refine o_q _ rfl rfl rfl (v_bS rfl Tryz.underlying53 inf53 plt53 rfl rfl rfl (by repeat (first | exact trivial | refine ⟨rfl, ?_⟩)) (by rfl)) ?_; refine o_lit rfl Tryz.underlying26 inf53 rfl rfl rfl rfl rfl rfl rfl rfl (by repeat (first | exact trivial | refine ⟨rfl, ?_⟩)) (by rfl) (fun b13 => ?_); refine o_q _ rfl rfl rfl (v_bS rfl Tryz.underlying92 inf92 plt92 rfl rfl rfl (by repeat (first | exact trivial | refine ⟨rfl, ?_⟩)) (by rfl)) ?_; refine o_q _ rfl rfl rfl (v_bS rfl Tryz.underlying92 inf92 plt92 rfl rfl rfl (by repeat (first | exact trivial | refine ⟨rfl, ?_⟩)) (by rfl)) ?_; refine o_q _ rfl rfl rfl (v_bS rfl Tryz.underlying92 inf92 plt92 rfl rfl rfl (by repeat (first | exact trivial | refine ⟨rfl, ?_⟩)) (by rfl)) ?_; refine o_q _ rfl rfl rfl (v_bS rfl Tryz.underlying92 inf92 plt92 rfl rfl rfl (by repeat (first | exact trivial | refine ⟨rfl, ?_⟩)) (by rfl)) ?_; refine o_lit rfl Tryz.underlying27 inf92 rfl rfl rfl rfl rfl rfl rfl rfl (by repeat (first | exact trivial | refine ⟨rfl, ?_⟩)) (by rfl) (fun b18 => ?_); refine o_q _ rfl rfl rfl (v_bS rfl Tryz.underlying46 inf46 plt46 rfl rfl rfl (by repeat (first | exact trivial | refine ⟨rfl, ?_⟩)) (by rfl)) ?_; refine o_q _ rfl rfl rfl (v_bS rfl Tryz.underlying46 inf46 plt46 rfl rfl rfl (by repeat (first | exact trivial | refine ⟨rfl, ?_⟩)) (by rfl)) ?_; refine o_lit rfl Tryz.underlying28 inf46 rfl rfl rfl rfl rfl rfl rfl rfl (by repeat (first | exact trivial | refine ⟨rfl, ?_⟩)) (by rfl) (fun b21 => ?_)
 refine o_q _ rfl rfl rfl (v_cast (v := valD07 (some ⟨b13, 0, none⟩) (some ⟨b18, 0, none⟩) (some ⟨b21, 0, none⟩)) (v_bSF (us := [.slice (some ⟨b13, 0, none⟩) 4 4, .slice (some ⟨b18, 0, none⟩) 4 4, .slice (some ⟨b21, 0, none⟩) 2 2, .slice none 0 0]) [0, 1, 2] rfl Tryz.underlying30 inf30 plt30 rfl rfl rfl (by rfl)) rfl) ?_; refine o_st rfl inf30 rfl rfl rfl rfl rfl rfl rfl rfl ?_; refine o_nil (r_then ?_); refine r_ret ?_; refine Imp.box_to b0 [.slice (some ⟨b13, 0, none⟩) 4 4, .slice (some ⟨b18, 0, none⟩) 4 4, .slice (some ⟨b21, 0, none⟩) 2 2, .slice none 0 0] rfl ?_; refine Imp.sealB b13 ?_; refine Imp.rowN (b := b13) D07.banks encDB_len rfl ?_; refine Imp.sealB b18 ?_; refine Imp.rowN (b := b18) D07.ways encDW_len rfl ?_; refine Imp.sealB b21 ?_; refine Imp.rowN (b := b21) D07.rights encR_len rfl ?_; exact r_retr (Rd.one rfl (RdI.cellW Tryz.underlying30 rfl inf30 rfl rfl)) ⟨(some ⟨b13, 0, none⟩), (some ⟨b18, 0, none⟩), (some ⟨b21, 0, none⟩), rfl⟩ SelMC.sel (by show SubR _ ([rowD (some ⟨b13, 0, none⟩) 4 encDB D07.banks, rowD (some ⟨b18, 0, none⟩) 2 encDW D07.ways, rowD (some ⟨b21, 0, none⟩) 3 encR D07.rights] ++ _); exact SubRC.sub)
theorem o_bank07 {W : World} {n : Nat} {D : List Deferred} {L : Tm} {M : List Res} {R : List Fact} {Q : Exit → Act → World → Prop} {o : Oper} {ops : Array Oper} {rest : List Oper} {xs : List Operand} {ts : Array TypeId} {d : Nat} (ho : o.op = .call { callee := .value (.func 34), args := xs.toArray, argTypes := ts }) (hx : evs L xs = some []) (hg : o.guard = none) (hdst : o.dst = some d) (hd : Nat.blt d n = true)
    (hret : ∀ lo, Imp W n D ((d, valK07 lo) :: L) M (rowD lo 5 encLe B07.leases :: rowD none 2 encMk B07.marks :: R) (wpList Tryz.prog ops Q rest)) : Imp W n D L M R (wpList Tryz.prog ops Q (o :: rest)) :=
  o_fn bank07_r ho hx hg hdst hd SubR.nil (fun v ⟨lo, hv⟩ => by
    subst hv
    refine Imp.derive (ψ := rowD none 2 encMk B07.marks) ?_ (fun V _ => .inl rfl)
    exact (hret lo).weak (fun _ _ h => h) SelM.refl (fun φ h => by
      simp only [List.mem_cons, List.mem_append, List.not_mem_nil, or_false] at h ⊢
      rcases h with h | h | h
      · exact .inr (.inl h)
      · exact .inl h
      · exact .inr (.inr h)))
theorem o_drain07 {W : World} {n : Nat} {D : List Deferred} {L : Tm} {M : List Res} {R : List Fact} {Q : Exit → Act → World → Prop} {o : Oper} {ops : Array Oper} {rest : List Oper} {xs : List Operand} {ts : Array TypeId} {d : Nat} (ho : o.op = .call { callee := .value (.func 35), args := xs.toArray, argTypes := ts }) (hx : evs L xs = some []) (hg : o.guard = none) (hdst : o.dst = some d) (hd : Nat.blt d n = true)
    (hret : ∀ bo wo ro, Imp W n D ((d, valD07 bo wo ro) :: L) M (rowD bo 4 encDB D07.banks :: rowD wo 2 encDW D07.ways :: rowD ro 3 encR D07.rights :: R) (wpList Tryz.prog ops Q rest)) : Imp W n D L M R (wpList Tryz.prog ops Q (o :: rest)) :=
  o_fn drain07_r ho hx hg hdst hd SubR.nil (fun v ⟨bo, wo, ro, hv⟩ => by
    subst hv
    exact (hret bo wo ro).weak (fun _ _ h => h) SelM.refl (fun φ h => by
      simp only [List.mem_cons, List.mem_append, List.not_mem_nil, or_false] at h ⊢
      rcases h with h | h | h | h
      · exact .inl (.inl h)
      · exact .inl (.inr (.inl h))
      · exact .inl (.inr (.inr h))
      · exact .inr h))
theorem whose07_v (lo : Option Addr) : FnV Tryz.prog 11 [valK07 lo, i64 3] [rowD lo 5 encLe B07.leases, rowD none 2 encMk B07.marks] (.tuple #[i64 3, i64 0]) := by
  have h := Whose_v B07 lo none 2 0 good_B07 (by decide) ways_B07 3 (by decide)
  rw [whose_B07] at h; exact h
theorem stop07_v (bo wo ro : Option Addr) : FnV Tryz.prog 12 [valD07 bo wo ro] [rowD bo 4 encDB D07.banks, rowD wo 2 encDW D07.ways, rowD ro 3 encR D07.rights] (.tuple #[i64 1, i64 2, i64 0]) := by
  have h := Stop_v D07 bo wo ro none 4 4 2 0 good_D07 rfl
  rw [stop_D07] at h; exact h
set_option maxHeartbeats 4000000 in
theorem awake07_v  : FnV Tryz.prog 7 [] [] (.bool true) := by
 refine FnV.intro Tryz.call7 Tryz.func7 rfl Tryz.ntmps7 rfl ?_; intro W M Rf; refine r_seq (r_region ?_); refine q_as rfl rfl rfl rfl rfl ?_; refine o_nil (r_then (r_seq (r_region ?_))); refine o_bank07 rfl rfl rfl rfl rfl (fun lo => ?_)
 all_goals
  refine o_q _ rfl rfl rfl (OpQ.fn (whose07_v lo) rfl rfl SubRC.sub) ?_; refine q_mv rfl rfl rfl rfl rfl ?_; refine o_q _ rfl rfl rfl (v_extract rfl rfl rfl) ?_; refine o_q _ rfl rfl rfl (v_extract rfl rfl rfl) ?_; refine q_as rfl rfl rfl rfl rfl ?_; refine q_as rfl rfl rfl rfl rfl ?_; refine o_nil (r_then (r_seq (r_region ?_))); refine o_drain07 rfl rfl rfl rfl rfl (fun bo wo ro => ?_)
  all_goals
   refine o_q _ rfl rfl rfl (OpQ.fn (stop07_v bo wo ro) rfl rfl SubRC.sub) ?_; refine q_mv rfl rfl rfl rfl rfl ?_; (iterate 3 refine o_q _ rfl rfl rfl (v_extract rfl rfl rfl) ?_); (iterate 3 refine q_as rfl rfl rfl rfl rfl ?_); refine o_nil (r_then (r_seq (r_region ?_))); refine q_mv rfl rfl rfl rfl rfl ?_; refine o_q _ rfl rfl rfl (v_true (v_eql rfl rfl rfl) (by omega)) ?_
   all_goals
    refine q_mv rfl rfl rfl rfl rfl ?_; refine o_g _ rfl rfl rfl rfl (v_move rfl rfl) ?_; refine o_g _ rfl rfl rfl rfl (v_true (v_eql rfl rfl rfl) (by omega)) ?_
    all_goals
     refine o_q _ rfl rfl rfl (v_pick_t rfl rfl rfl) ?_; refine q_mv rfl rfl rfl rfl rfl ?_; refine o_g _ rfl rfl rfl rfl (v_move rfl rfl) ?_; refine o_g _ rfl rfl rfl rfl (v_true (v_eql rfl rfl rfl) (by omega)) ?_
     all_goals
      refine o_q _ rfl rfl rfl (v_pick_t rfl rfl rfl) ?_; refine q_mv rfl rfl rfl rfl rfl ?_; refine o_g _ rfl rfl rfl rfl (v_move rfl rfl) ?_; refine o_g _ rfl rfl rfl rfl (v_true (v_eql rfl rfl rfl) (by omega)) ?_
      all_goals
       refine o_q _ rfl rfl rfl (v_pick_t rfl rfl rfl) ?_; refine q_mv rfl rfl rfl rfl rfl ?_; refine o_g _ rfl rfl rfl rfl (v_move rfl rfl) ?_; refine o_g _ rfl rfl rfl rfl (v_true (v_eql rfl rfl rfl) (by omega)) ?_
       all_goals
        refine o_q _ rfl rfl rfl (v_pick_t rfl rfl rfl) ?_; refine q_as rfl rfl rfl rfl rfl ?_; refine o_nil (r_then ?_); refine r_ret ?_; exact r_retv2 (Rd.tmp rfl rfl) rfl SelMC.sel SubRC.sub
end Go.Proofs.YtpndeonmmcaikaaGreat.DrW

namespace Go.Proofs.YtpndeonmmcaikaaGreat
open Go.G Foot4 Sod2
set_option maxRecDepth 1000000
attribute [local irreducible] G.ParO G.Fin
set_option maxHeartbeats 4000000 in
theorem draws_s (bys : List Int) (ba : Option Addr) (bc : Nat) : FnS Tryz.prog 9 [.slice ba bys.length bc] [] [] (fun e M' R' => ∃ x : Nat × Nat, e = .returned (.func (.func 38) #[] #[pt x.1 0, pt x.2 0]) ∧ True ∧ M' = [bx x.1 3 [i64 ((0 : Nat) : Int)]] ∧ R' = [boxF x.2 31 [.slice ba bys.length bc]]) := by
 refine FnS.intro0 Tryz.call9 Tryz.func9 rfl Tryz.ntmps9 rfl ?_; intro W M Rf; refine r_seq (r_region ?_); refine o_box1 rfl rfl rfl rfl rfl rfl (fun b1 => ?_); refine q_as rfl rfl rfl rfl rfl ?_; refine o_nil ?_
 (repeat (first | with_reducible refine r_then ?_ | with_reducible refine r_in_normal ?_ | with_reducible refine r_sc_normal ?_))
 refine r_seq (r_region ?_); refine o_alloc rfl inf3 rfl rfl rfl rfl rfl (fun b3 => ?_); refine o_st rfl inf3 rfl rfl rfl rfl rfl rfl rfl rfl ?_; refine o_nil ?_
 (repeat (first | with_reducible refine r_then ?_ | with_reducible refine r_in_normal ?_ | with_reducible refine r_sc_normal ?_))
 refine r_seq ?_; refine Imp.sealB b1 ?_; refine r_region ?_; refine o_q _ rfl rfl rfl (v_makeFunc rfl rfl rfl) ?_; refine q_as rfl rfl rfl rfl rfl ?_; refine o_nil ?_
 (repeat (first | with_reducible refine r_then ?_ | with_reducible refine r_in_normal ?_ | with_reducible refine r_sc_normal ?_))
 refine r_ret ?_
 (repeat (first | with_reducible refine r_then_ret ?_ | with_reducible refine r_in_ret ?_ | with_reducible refine r_sc_ret ?_))
 refine Imp.box_to b3 [i64 ((0 : Nat) : Int)] rfl ?_; exact r_rete [bx b3 3 [i64 ((0 : Nat) : Int)]] [boxF b1 31 [.slice ba bys.length bc]] (Rd.tmp rfl rfl) ⟨(b3, b1), rfl, trivial, rfl, rfl⟩ SelMC.sel SubRC.sub
theorem u16_at {bys : List Int} (hu : U16s bys) (i : Nat) : 0 ≤ bys.getD i 0 ∧ bys.getD i 0 ≤ 65535 := by
  by_cases hl : i < bys.length
  · have hm : bys.getD i 0 ∈ bys := by simp [List.getD_eq_getElem?_getD, hl]
    exact hu _ hm
  · simp [List.getD_eq_getElem?_getD, List.getElem?_eq_none (by omega : bys.length ≤ i)]
set_option maxHeartbeats 4000000 in
theorem draw1_c (bys : List Int) (ba : Option Addr) (bc : Nat) (hu : U16s bys) (hbl : bys.length ≤ 9223372036854775807) (ab bb k : Nat) (s : Span) (hk : k ≤ 100000) (hs : s.lo ≤ s.hi) (h0 : -1000 ≤ s.lo) (h1 : s.hi ≤ 1000) : FnC Tryz.prog 38 [.agg #[i64 s.lo, i64 s.hi], pt ab 0, pt bb 0] (bx ab 3 [i64 k]) [boxF bb 31 [.slice ba bys.length bc], rowD ba 1 encU bys] (i64 (drawT bys (k + 1) s)) (bx ab 3 [i64 ((k + 1 : Nat) : Int)]) := by
 refine FnC.intro Tryz.call38 Tryz.func38 rfl Tryz.ntmps38 rfl ?_; intro W M Rf; refine r_seq (r_region ?_); refine o_boxA rfl rfl rfl rfl rfl (fun b3 => ?_); refine q_as rfl rfl rfl rfl rfl ?_; refine o_nil ?_
 (repeat (first | with_reducible refine r_then ?_ | with_reducible refine r_in_normal ?_ | with_reducible refine r_sc_normal ?_))
 refine r_seq ?_; refine Imp.box_to ab [i64 k] rfl ?_; refine r_region ?_
 first | refine o_q _ rfl rfl rfl (v_ld1 rfl Tryz.underlying3 rfl rfl rfl) ?_ | refine o_q _ rfl rfl rfl (v_lf1 rfl Tryz.underlying3 rfl rfl rfl) ?_ | refine o_q _ rfl rfl rfl (v_loadE1 rfl Tryz.underlying3 rfl rfl (by omega) rfl rfl) ?_
 refine o_q _ rfl rfl rfl (v_add rfl rfl rfl (by omega)) ?_; refine o_st rfl inf3 rfl rfl rfl rfl rfl rfl rfl rfl ?_; refine o_nil ?_
 (repeat (first | with_reducible refine r_then ?_ | with_reducible refine r_in_normal ?_ | with_reducible refine r_sc_normal ?_))
 refine r_seq ?_; refine r_seq (r_region ?_)
 first | refine o_q _ rfl rfl rfl (v_ld1 rfl Tryz.underlying31 rfl rfl rfl) ?_ | refine o_q _ rfl rfl rfl (v_lf1 rfl Tryz.underlying31 rfl rfl rfl) ?_ | refine o_q _ rfl rfl rfl (v_loadE1 rfl Tryz.underlying31 rfl rfl (by omega) rfl rfl) ?_
 refine o_q _ rfl rfl rfl (v_len rfl rfl Tryz.underlying31 rfl) ?_; refine o_q _ rfl rfl rfl (v_eql rfl rfl rfl) ?_; refine o_nil ?_
 (repeat (first | with_reducible refine r_then ?_ | with_reducible refine r_in_normal ?_ | with_reducible refine r_sc_normal ?_))
 first | refine r_condd rfl (fun hc9 => ?_) (fun hc9 => ?_) | refine r_cond rfl (fun hc9 => ?_) (fun hc9 => ?_)
 ·
  first
  | (exfalso; revert hc9; decide)
  | (exfalso; omega)
  |
   skip
   refine r_seq ?_; refine Imp.box_to ab [i64 ((k + 1 : Nat) : Int)] rfl ?_; refine r_region ?_
   first | refine o_q _ rfl rfl rfl (v_fieldAddr rfl Tryz.underlying43 inf3 rfl rfl rfl rfl) ?_ | refine o_q _ rfl rfl rfl (v_fieldAddrE rfl Tryz.underlying43 inf3 rfl rfl rfl rfl) ?_
   first | refine o_q _ rfl rfl rfl (v_ld1 rfl Tryz.underlying3 rfl rfl rfl) ?_ | refine o_q _ rfl rfl rfl (v_lf1 rfl Tryz.underlying3 rfl rfl rfl) ?_ | refine o_q _ rfl rfl rfl (v_loadE1 rfl Tryz.underlying3 rfl rfl (by omega) rfl rfl) ?_
   refine q_as rfl rfl rfl rfl rfl ?_; refine o_nil ?_
   (repeat (first | with_reducible refine r_then ?_ | with_reducible refine r_in_normal ?_ | with_reducible refine r_sc_normal ?_))
   refine r_ret ?_
   (repeat (first | with_reducible refine r_then_ret ?_ | with_reducible refine r_in_ret ?_ | with_reducible refine r_sc_ret ?_))
   first
   | exact r_rete [bx ab 3 [i64 ((k + 1 : Nat) : Int)]] [] (Rd.tmp rfl rfl) ⟨congrArg Ending.returned (congrArg (Value.int .i64) (drawT_0 (by assumption)).symm), rfl, rfl⟩ SelMC.sel SubRC.sub
   | exact r_rete [bx ab 3 [i64 ((k + 1 : Nat) : Int)]] [] (Rd.tmp rfl rfl) ⟨congrArg Ending.returned (congrArg (Value.int .i64) (drawT_1 (by assumption)).symm), rfl, rfl⟩ SelMC.sel SubRC.sub
 ·
  first
  | (exfalso; revert hc9; decide)
  | (exfalso; omega)
  |
   skip
   refine r_skip ?_
   (repeat (first | with_reducible refine r_then ?_ | with_reducible refine r_in_normal ?_ | with_reducible refine r_sc_normal ?_))
   refine r_seq ?_; have hpos : 0 < bys.length := by omega
   have hlt : (k + 1) % bys.length < bys.length := Nat.mod_lt _ hpos; have hat := u16_at hu ((k + 1) % bys.length); refine Imp.box_to ab [i64 ((k + 1 : Nat) : Int)] rfl ?_; refine r_region_q mixed (by kernel_rfl) ?_
   first | refine q_q _ rfl rfl rfl (v_fieldAddr rfl Tryz.underlying43 inf3 rfl rfl rfl rfl) ?_ | refine q_q _ rfl rfl rfl (v_fieldAddrE rfl Tryz.underlying43 inf3 rfl rfl rfl rfl) ?_
   first | refine q_q _ rfl rfl rfl (v_ld1 rfl Tryz.underlying3 rfl rfl rfl) ?_ | refine q_q _ rfl rfl rfl (v_lf1 rfl Tryz.underlying3 rfl rfl rfl) ?_ | refine q_q _ rfl rfl rfl (v_loadE1 rfl Tryz.underlying3 rfl rfl (by omega) rfl rfl) ?_
   first | refine q_q _ rfl rfl rfl (v_ld1 rfl Tryz.underlying31 rfl rfl rfl) ?_ | refine q_q _ rfl rfl rfl (v_lf1 rfl Tryz.underlying31 rfl rfl rfl) ?_ | refine q_q _ rfl rfl rfl (v_loadE1 rfl Tryz.underlying31 rfl rfl (by omega) rfl rfl) ?_
   first | refine q_q _ rfl rfl rfl (v_ld1 rfl Tryz.underlying3 rfl rfl rfl) ?_ | refine q_q _ rfl rfl rfl (v_lf1 rfl Tryz.underlying3 rfl rfl rfl) ?_ | refine q_q _ rfl rfl rfl (v_loadE1 rfl Tryz.underlying3 rfl rfl (by omega) rfl rfl) ?_
   first | refine q_q _ rfl rfl rfl (v_ld1 rfl Tryz.underlying31 rfl rfl rfl) ?_ | refine q_q _ rfl rfl rfl (v_lf1 rfl Tryz.underlying31 rfl rfl rfl) ?_ | refine q_q _ rfl rfl rfl (v_loadE1 rfl Tryz.underlying31 rfl rfl (by omega) rfl rfl) ?_
   refine q_q _ rfl rfl rfl (v_len rfl rfl Tryz.underlying31 rfl) ?_; refine q_q _ rfl rfl rfl (v_cast (v := i64 (((k + 1) % bys.length : Nat) : Int)) (v_rem rfl rfl rfl (by omega)) (congrArg (Value.int .i64) (G.tmod_nat (a := k + 1) (b := bys.length)))) ?_
   first | refine q_q _ rfl rfl rfl (v_indexAddrSn rfl Tryz.underlying31 inf97 rfl rfl rfl (by omega) rfl) ?_ | refine q_q _ rfl rfl rfl (v_indexAddrS rfl Tryz.underlying31 inf97 rfl rfl rfl (by omega) (by omega) rfl) ?_
   refine q_q _ rfl rfl rfl (v_loadE1 (v := .int .u16 (bys.getD ((k + 1) % bys.length) 0)) rfl Tryz.underlying97 rfl rfl hlt rfl rfl) ?_; refine q_q _ rfl rfl rfl (v_conv rfl Tryz.underlying97 Tryz.underlying3 rfl (IntWalk.i64_in _ (by omega))) ?_
   first | refine q_q _ rfl rfl rfl (v_ld1 rfl Tryz.underlying3 rfl rfl rfl) ?_ | refine q_q _ rfl rfl rfl (v_lf1 rfl Tryz.underlying3 rfl rfl rfl) ?_ | refine q_q _ rfl rfl rfl (v_loadE1 rfl Tryz.underlying3 rfl rfl (by omega) rfl rfl) ?_
   refine q_q _ rfl rfl rfl (v_mul rfl rfl rfl (by omega)) ?_; refine q_q _ rfl rfl rfl (v_add rfl rfl rfl (by omega)) ?_
   first | refine q_q _ rfl rfl rfl (v_fieldAddr rfl Tryz.underlying43 inf3 rfl rfl rfl rfl) ?_ | refine q_q _ rfl rfl rfl (v_fieldAddrE rfl Tryz.underlying43 inf3 rfl rfl rfl rfl) ?_
   first | refine q_q _ rfl rfl rfl (v_ld1 rfl Tryz.underlying3 rfl rfl rfl) ?_ | refine q_q _ rfl rfl rfl (v_lf1 rfl Tryz.underlying3 rfl rfl rfl) ?_ | refine q_q _ rfl rfl rfl (v_loadE1 rfl Tryz.underlying3 rfl rfl (by omega) rfl rfl) ?_
   first | refine q_q _ rfl rfl rfl (v_fieldAddr rfl Tryz.underlying43 inf3 rfl rfl rfl rfl) ?_ | refine q_q _ rfl rfl rfl (v_fieldAddrE rfl Tryz.underlying43 inf3 rfl rfl rfl rfl) ?_
   first | refine q_q _ rfl rfl rfl (v_ld1 rfl Tryz.underlying3 rfl rfl rfl) ?_ | refine q_q _ rfl rfl rfl (v_lf1 rfl Tryz.underlying3 rfl rfl rfl) ?_ | refine q_q _ rfl rfl rfl (v_loadE1 rfl Tryz.underlying3 rfl rfl (by omega) rfl rfl) ?_
   refine q_q _ rfl rfl rfl (v_sub rfl rfl rfl (by omega)) ?_; refine q_q _ rfl rfl rfl (v_add rfl rfl rfl (by omega)) ?_; refine q_q _ rfl rfl rfl (v_rem rfl rfl rfl (by omega)) ?_; refine q_q _ rfl rfl rfl (v_add rfl rfl rfl (by have h2 := Int.tmod_nonneg (s.hi - s.lo + 1) (show 0 ≤ (bys.getD ((k + 1) % bys.length) 0) + 79 * ((k + 1 : Nat) : Int) by omega); have h3 := Int.tmod_lt_of_pos ((bys.getD ((k + 1) % bys.length) 0) + 79 * ((k + 1 : Nat) : Int)) (show 0 < s.hi - s.lo + 1 by omega); omega)) ?_; refine q_q _ rfl rfl rfl (v_assign rfl rfl) ?_; refine q_nil ?_
   (repeat (first | with_reducible refine r_then ?_ | with_reducible refine r_in_normal ?_ | with_reducible refine r_sc_normal ?_))
   refine r_ret ?_
   (repeat (first | with_reducible refine r_then_ret ?_ | with_reducible refine r_in_ret ?_ | with_reducible refine r_sc_ret ?_))
   first
   | exact r_rete [bx ab 3 [i64 ((k + 1 : Nat) : Int)]] [] (Rd.tmp rfl rfl) ⟨congrArg Ending.returned (congrArg (Value.int .i64) (drawT_0 (by assumption)).symm), rfl, rfl⟩ SelMC.sel SubRC.sub
   | exact r_rete [bx ab 3 [i64 ((k + 1 : Nat) : Int)]] [] (Rd.tmp rfl rfl) ⟨congrArg Ending.returned (congrArg (Value.int .i64) (drawT_1 (by assumption)).symm), rfl, rfl⟩ SelMC.sel SubRC.sub
variable (B : Bank) (po so lo : Option Addr) (pc sc lc : Nat)
end Go.Proofs.YtpndeonmmcaikaaGreat

namespace Go.Proofs.YtpndeonmmcaikaaGreat.DrW
open Go.G Foot4 Drain7
set_option maxRecDepth 1000000
attribute [local irreducible] G.ParO G.Fin
theorem v_max6 {P : Program} {W : World} {n : Nat} {L : Tm} {M : List Res} {R : List Fact} {o : Oper} {x1 x2 x3 x4 x5 x6 : Operand} {k : IntKind} {a b c d e f : Int} {ts : Array TypeId} (ho : o.op = .call { callee := .builtin .max, args := #[x1, x2, x3, x4, x5, x6], argTypes := ts }) (h1 : ev L x1 = some (.int k a)) (h2 : ev L x2 = some (.int k b)) (h3 : ev L x3 = some (.int k c)) (h4 : ev L x4 = some (.int k d)) (h5 : ev L x5 = some (.int k e)) (h6 : ev L x6 = some (.int k f)) : OpQ P W n L M R o (.int k (max (max (max (max (max a b) c) d) e) f)) :=
  OpQ.of_value fun g w hh _ => by
    have hm : ∀ a b : Int, (if a < b then b else a) = max a b := fun a b => by split <;> omega
    simp [execOp, ho, resolve, invoke, builtin, hh.ev h1, hh.ev h2, hh.ev h3, hh.ev h4, hh.ev h5, hh.ev h6, Builtin.max_, Builtin.max2, hm]
theorem float_loadS {P : Program} {n : Nat} {L : Tm} {Z : World → Prop} {o : Oper} {T B : TypeId} {x : Operand} {b off : Nat} {vs : List Value} (us : List Value) {d : TypeDesc} {i : TypeInfo} (ho : o.op = .load T x) (hT : P.underlying T = some d) (hd : aggD d = true) (hi : P.info? T = some i) (hx : ev L x = some (pt b off)) (hu : us.length = i.size) (hv : ∀ j, j < i.size → vs[off + j]? = us[j]?) (hz : ∀ w, Z w → w.heap[b]? = some (.cells vs.toArray B (0, 0))) : ∀ a, FSat n L a → ∀ w, Z w → (execOp a.eval o).run P w = .ok (.value (.agg us.toArray)) w := fun a ha w h => by
  have hs : St w [bx b B vs] [] w := ⟨rfl, rfl, rfl, [(b, .cells vs.toArray B (0, 0))], ⟨[(b, .cells vs.toArray B (0, 0))], [], rfl, rfl, rfl⟩, ⟨by simp [keys], fun p hp => by
    have : p = (b, .cells vs.toArray B (0, 0)) := by simpa using hp
    subst this; exact hz w h⟩, fun φ hφ => by cases hφ⟩
  have hagg := run_isAgg' (w := w) hT
  rw [hd] at hagg
  have hl := run_loadCells_bx (P := P) (off := off) (k := i.size) hs (List.mem_singleton.2 rfl) hu hv
  simp [execOp, ho, ha.ev hx, Instr.loadAt, pt, Instr.sureAddr, loadVar, hagg, run_sizeOf' hi, hl]
theorem frm_len {B : Bk} {s : Nat} : ∀ (ls : List Lease) (x : Lin), (∀ le ∈ ls, le.fhi - le.flo ≤ 2 ∧ le.thi - le.tlo ≤ 2) → (frmL B s ls x).length ≤ 9 ^ ls.length
  | [], x, _ => by
    unfold frmL
    split
    · exact Nat.le_refl _
    · exact Nat.zero_le _
  | le :: ls, x, h => by
    have h0 := h le (by simp)
    have hs := fun q hq => h q (List.mem_cons_of_mem _ hq)
    have h1 : ∀ a : Nat, ((List.range (le.thi - le.tlo + 1).toNat).flatMap fun b : Nat => if le.flo + (a : Int) < le.tlo + (b : Int) then frmL B s ls ⟨x.f ++ [le.flo + (a : Int)], x.t ++ [le.tlo + (b : Int)]⟩ else []).length ≤ 3 * 9 ^ ls.length := fun a => by
      have h2 := flat_len8 (fun b : Nat => if le.flo + (a : Int) < le.tlo + (b : Int) then frmL B s ls ⟨x.f ++ [le.flo + (a : Int)], x.t ++ [le.tlo + (b : Int)]⟩ else []) (9 ^ ls.length) (fun b => by
        split
        · exact frm_len ls _ hs
        · exact Nat.zero_le _) (List.range (le.thi - le.tlo + 1).toNat)
      rw [List.length_range] at h2
      have h3 : (le.thi - le.tlo + 1).toNat * 9 ^ ls.length ≤ 3 * 9 ^ ls.length := Nat.mul_le_mul_right _ (by omega)
      exact Nat.le_trans h2 h3
    have h4 := flat_len8 _ (3 * 9 ^ ls.length) h1 (List.range (le.fhi - le.flo + 1).toNat)
    rw [List.length_range] at h4
    have h5 : (le.fhi - le.flo + 1).toNat * (3 * 9 ^ ls.length) ≤ 3 * (3 * 9 ^ ls.length) := Nat.mul_le_mul_right _ (by omega)
    have e : 9 ^ (le :: ls).length = 3 * (3 * 9 ^ ls.length) := by rw [List.length_cons, Nat.pow_succ]; omega
    rw [e]
    exact Nat.le_trans h4 h5
theorem tru_len {B : Bk} (hg : GoodK B) (h3 : B.leases.length ≤ 3) (s : Nat) : (truL B s).length ≤ 729 := by
  have h := frm_len (B := B) (s := s) B.leases ⟨[], []⟩ (fun le hq => by
    obtain ⟨k, hk, rfl⟩ := List.mem_iff_getElem.1 hq
    have := hg.2.2.2.2.1 k hk
    rw [List.getD_eq_getElem?_getD, List.getElem?_eq_getElem hk] at this
    exact ⟨this.2.1.2.2.2, this.2.2.1.2.2.2⟩)
  have h4 : 9 ^ B.leases.length ≤ 9 ^ 3 := Nat.pow_le_pow_right (by decide) h3
  exact Nat.le_trans h h4
theorem trx_len {B : Bk} (hg : GoodK B) (h3 : B.leases.length ≤ 3) {s : Nat} (y : TrX B s) : y.1.2.length ≤ 729 := by
  have h := tru_len hg h3 s
  rw [← y.2.1, List.length_map] at h
  exact h
theorem trx_tru {B : Bk} (y : TrX B (2 ^ B.marks.length - 1)) {a : XA} (h : a ∈ y.1.2) : TruX B a.x := tru_of (by rw [← y.2.1]; exact List.mem_map_of_mem h)
def rsT (B : Bk) (D : Dr) : Nat → List Right
  | 0 => []
  | k + 1 => if Cnts B (D.rights.getD k default) then rsT B D k ++ [D.rights.getD k default] else rsT B D k
theorem rsT_y {B : Bk} {D : Dr} {k : Nat} (h : Cnts B (D.rights.getD k default)) : rsT B D k ++ [D.rights.getD k default] = rsT B D (k + 1) := (if_pos h).symm
theorem rsT_n {B : Bk} {D : Dr} {k : Nat} (h : ¬ Cnts B (D.rights.getD k default)) : rsT B D k = rsT B D (k + 1) := (if_neg h).symm
theorem rsT_len {B : Bk} {D : Dr} : ∀ k, (rsT B D k).length ≤ k
  | 0 => Nat.le_refl _
  | k + 1 => by
    have ih := rsT_len (B := B) (D := D) k
    unfold rsT
    split
    · rw [List.length_append, List.length_singleton]; omega
    · omega
theorem rsT_take {B : Bk} {D : Dr} : ∀ k, k ≤ D.rights.length → rsT B D k = (D.rights.take k).filter fun r => decide (Cnts B r)
  | 0, _ => by simp [rsT]
  | k + 1, hk => by
    have ih := rsT_take (B := B) (D := D) k (by omega)
    have e : D.rights.getD k default = D.rights[k] := by rw [List.getD_eq_getElem?_getD, List.getElem?_eq_getElem (by omega)]; rfl
    rw [rsT, ih, List.take_add_one, List.getElem?_eq_getElem (by omega), List.filter_append, e]
    by_cases h : Cnts B D.rights[k]
    · rw [if_pos h]; simp [h]
    · rw [if_neg h]; simp [h]
theorem rsT_end {B : Bk} {D : Dr} : rsT B D D.rights.length = D.rights.filter fun r => decide (Cnts B r) := by rw [rsT_take _ (Nat.le_refl _), List.take_length]
def lvT (f : Nat → Span → Int) (D : Dr) : Nat → List Int
  | 0 => []
  | k + 1 => lvT f D k ++ [f (1 + 2 * k + 1) ⟨(D.banks.getD k default).llo, (D.banks.getD k default).lhi⟩]
def ysT (f : Nat → Span → Int) (D : Dr) : Nat → List Int
  | 0 => []
  | k + 1 => ysT f D k ++ [f (1 + 2 * k + 1 + 1) ⟨(D.banks.getD k default).ylo, (D.banks.getD k default).yhi⟩]
theorem lvT_len {f : Nat → Span → Int} {D : Dr} : ∀ {k}, (lvT f D k).length = k
  | 0 => rfl
  | k + 1 => by rw [lvT, List.length_append, lvT_len]; rfl
theorem ysT_len {f : Nat → Span → Int} {D : Dr} : ∀ {k}, (ysT f D k).length = k
  | 0 => rfl
  | k + 1 => by rw [ysT, List.length_append, ysT_len]; rfl
theorem lvT_s {f : Nat → Span → Int} {D : Dr} {k : Nat} : lvT f D k ++ [f (1 + 2 * k + 1) ⟨(D.banks.getD k default).llo, (D.banks.getD k default).lhi⟩] = lvT f D (k + 1) := rfl
theorem ysT_s {f : Nat → Span → Int} {D : Dr} {k : Nat} : ysT f D k ++ [f (1 + 2 * k + 1 + 1) ⟨(D.banks.getD k default).ylo, (D.banks.getD k default).yhi⟩] = ysT f D (k + 1) := rfl
theorem app_get {l : List Int} {v : Int} {k j : Nat} (hl : l.length = k) (hj : j < k + 1) : (l ++ [v]).getD j 0 = if j = k then v else l.getD j 0 := by
  subst hl
  rw [List.getD_eq_getElem?_getD, List.getD_eq_getElem?_getD]
  by_cases e : j = l.length
  · subst e; rw [if_pos rfl, List.getElem?_append_right (Nat.le_refl _), Nat.sub_self]; rfl
  · rw [if_neg e, List.getElem?_append_left (by omega)]
theorem lvT_at {f : Nat → Span → Int} {D : Dr} : ∀ n j, j < n → (lvT f D n).getD j 0 = f (1 + 2 * j + 1) ⟨(D.banks.getD j default).llo, (D.banks.getD j default).lhi⟩
  | n + 1, j, h => by
    rw [lvT, app_get lvT_len h]
    split
    · rename_i e; rw [e]
    · exact lvT_at n j (by omega)
theorem ysT_at {f : Nat → Span → Int} {D : Dr} : ∀ n j, j < n → (ysT f D n).getD j 0 = f (1 + 2 * j + 1 + 1) ⟨(D.banks.getD j default).ylo, (D.banks.getD j default).yhi⟩
  | n + 1, j, h => by
    rw [ysT, app_get ysT_len h]
    split
    · rename_i e; rw [e]
    · exact ysT_at n j (by omega)
theorem lvT_in {f : Nat → Span → Int} {D : Dr} (hf : Sod2.InD f) (hg : GoodD D) : InB D (lvT f D D.banks.length) := ⟨lvT_len, fun k hk => by
  rw [lvT_at _ _ hk]
  exact hf _ _ (hg.2.2.2.2.1 k hk).1.2.1⟩
theorem ysT_in {f : Nat → Span → Int} {D : Dr} (hf : Sod2.InD f) (hg : GoodD D) : InY D (ysT f D D.banks.length) := ⟨ysT_len, fun k hk => by
  rw [ysT_at _ _ hk]
  exact hf _ _ (hg.2.2.2.2.1 k hk).2.2.1⟩
theorem nxTo_w {D : Dr} {rs : List Right} {lv : List Int} {s b : Nat} : ∀ k, nxTo (withR D rs) lv s b k = nxTo D lv s b k
  | 0 => rfl
  | k + 1 => by
    have ih := nxTo_w (D := D) (rs := rs) (lv := lv) (s := s) (b := b) k
    unfold nxTo
    rw [ih]
    rfl
theorem nx_w {D : Dr} {rs : List Right} {lv : List Int} {s b : Nat} : nxD (withR D rs) lv s b = nxD D lv s b := nxTo_w _
theorem nx_le {D : Dr} {lv : List Int} {s b : Nat} : nxD D lv s b ≤ D.banks.length := nxTo_le _ (Nat.le_refl _)
theorem wtr_bd {D : Dr} (hg : GoodD D) {nx : Nat → Nat} {ys : List Int} (hy : InY D ys) {i k b : Nat} (hi : i < D.banks.length) (hk : k ≤ 22) (hb : b < D.banks.length) : 0 ≤ (wtrD D.banks.length nx ys i k).getD b 0 ∧ (wtrD D.banks.length nx ys i k).getD b 0 ≤ 3000 := by
  rw [wtr_get hb]
  have h1 := tot_bd hg (nx := nx) hy (b := b) (k := 22) i (by omega)
  have h2 := vis_bd (n := D.banks.length) (nx := nx) (i := i) (b := b) k
  have h3 := hy.2 i hi
  have h4 := (hg.2.2.2.2.1 i hi).2
  unfold SpanD at h4
  have h5 : 0 ≤ ys.getD i 0 * visD D.banks.length nx i b k := Int.mul_nonneg (by omega) h2.1
  have h6 : ys.getD i 0 * visD D.banks.length nx i b k ≤ 20 * (k : Int) := Int.mul_le_mul (by omega) h2.2 h2.1 (by omega)
  have h7 := hg.1.2
  omega
theorem run_end {D : Dr} (hg : GoodD D) {lv : List Int} (hl : InB D lv) {s i k : Nat} (hs : s < 2 ^ D.ways.length) (h : itD D.banks.length (nxD D lv (2 ^ D.ways.length - 1 - s)) i k < D.banks.length) : k ≤ 20 :=
  it_end (lv := lv) (fun b hb ht => nx_fall hg hs hb ht) (fun b hb => by
    have h1 := hl.2 b hb
    have h2 := (hg.2.2.2.2.1 b hb).1
    unfold SpanD at h2
    omega) h
theorem right_law {B : Bk} {D : Dr} {x : Lin} (hk : GoodK B) (ht : TruX B x) (hg : GoodD D) {lv ys : List Int} (hl : InB D lv) (hy : InY D ys) {rs : List Right} (hrs : rs = D.rights.filter fun r => decide (Cnts B r)) {s : Nat} (hs : s = stopD (withR D rs)) {r : Right} (hr : r ∈ D.rights) : ofX B x r.of_ = ofX B x r.to_ ∨ (nxD D lv (2 ^ D.ways.length - 1 - s) r.of_.toNat : Int) ≠ r.to_ ∨ totD D.banks.length (nxD D lv (2 ^ D.ways.length - 1 - s)) ys r.of_.toNat 22 D.banks.length ≤ r.most := by
  by_cases h1 : ofX B x r.of_ = ofX B x r.to_
  · exact .inl h1
  by_cases h2 : (nxD D lv (2 ^ D.ways.length - 1 - s) r.of_.toNat : Int) = r.to_
  · subst hrs
    exact .inr (.inr (drained_law hg hl hy hs hr (decide_eq_true (cnts_of hk ht h1)) (by omega)))
  · exact .inr (.inl h2)
theorem wtr_end {D : Dr} {nx : Nat → Nat} {ys : List Int} {b : Nat} (hb : b < D.banks.length) : (wtrD D.banks.length nx ys D.banks.length 0).getD b 0 = totD D.banks.length nx ys b 22 D.banks.length := by
  rw [wtr_get hb]
  show _ + _ * 0 = _
  omega
theorem stop_law {B : Bk} {D : Dr} {rs : List Right} (hg : GoodD D) (hrs : rs = D.rights.filter fun r => decide (Cnts B r)) : GoodD (withR D rs) ∧ cnt (stopD (withR D rs)) ≤ cnt (stopD (withR D D.rights)) ∧ stopD (withR D rs) < 2 ^ D.ways.length := by
  subst hrs
  exact ⟨good_f hg _, stop_le (fun r hr => (List.mem_filter.1 hr).1) (good_w hg) (good_f hg _), stop_lt (D := withR D (D.rights.filter fun r => decide (Cnts B r))) (by have := hg.2.1; show D.ways.length ≤ 7; omega)⟩
end Go.Proofs.YtpndeonmmcaikaaGreat.DrW

namespace Go.Proofs.YtpndeonmmcaikaaGreat.DrW
open Go.G Foot4 Drain7
set_option maxRecDepth 1000000
attribute [local irreducible] G.ParO G.Fin
attribute [local irreducible] whoseB waysB asks0 stopD Drain7.cnt truL frmL lvs allL wat crK nxTo totD wtrD itD visD rsT lvT ysT ofTo Sod2.drawT
variable (B : Bk) (lo mo : Option Addr) (lc mc : Nat) (D : Dr) (bo wo ro so : Option Addr) (bc wc rc sc : Nat)
set_option maxHeartbeats 4000000 in
theorem drained_v (bys : List Int) (ba : Option Addr) (uc : Nat) (hu : Foot4.U16s bys) (hbl : bys.length ≤ 9223372036854775807) : FnV Tryz.prog 3 [valK B lo mo lc mc, valD D bo wo ro so bc wc rc sc, .slice ba bys.length uc] [rowD lo 5 encLe B.leases, rowD mo 2 encMk B.marks, rowD bo 4 encDB D.banks, rowD wo 2 encDW D.ways, rowD ro 3 encR D.rights, rowD so 2 encDW D.seen, rowD ba 1 Foot4.encU bys] (.bool true) := by
 refine FnV.intro Tryz.call3 Tryz.func3 rfl Tryz.ntmps3 rfl ?_; intro W M Rf; refine r_seq (r_region ?_); refine o_boxA rfl rfl rfl rfl rfl (fun b3 => ?_); refine o_boxA rfl rfl rfl rfl rfl (fun b4 => ?_); refine q_as rfl rfl rfl rfl rfl ?_; refine o_nil (r_then (r_seq ?_)); refine r_seq (r_region ?_); refine o_q _ rfl rfl rfl (v_fieldAddr rfl Tryz.underlying25 inf22 rfl rfl rfl rfl) ?_; refine o_q _ rfl rfl rfl (v_ld1 rfl Tryz.underlying22 rfl rfl rfl) ?_; refine o_q _ rfl rfl rfl (v_len rfl rfl Tryz.underlying22 rfl) ?_; refine o_q _ rfl rfl rfl (v_fieldAddr rfl Tryz.underlying25 inf23 rfl rfl rfl rfl) ?_; refine o_q _ rfl rfl rfl (v_ld1 rfl Tryz.underlying23 rfl rfl rfl) ?_; refine o_q _ rfl rfl rfl (v_len rfl rfl Tryz.underlying23 rfl) ?_; refine o_q _ rfl rfl rfl (v_fieldAddr rfl Tryz.underlying30 inf26 rfl rfl rfl rfl) ?_; refine o_q _ rfl rfl rfl (v_ld1 rfl Tryz.underlying26 rfl rfl rfl) ?_; refine o_q _ rfl rfl rfl (v_len rfl rfl Tryz.underlying26 rfl) ?_; refine o_q _ rfl rfl rfl (v_fieldAddr rfl Tryz.underlying30 inf27 rfl rfl rfl rfl) ?_; refine o_q _ rfl rfl rfl (v_ld1 rfl Tryz.underlying27 rfl rfl rfl) ?_; refine o_q _ rfl rfl rfl (v_len rfl rfl Tryz.underlying27 rfl) ?_; refine o_q _ rfl rfl rfl (v_fieldAddr rfl Tryz.underlying30 inf28 rfl rfl rfl rfl) ?_; refine o_q _ rfl rfl rfl (v_ld1 rfl Tryz.underlying28 rfl rfl rfl) ?_; refine o_q _ rfl rfl rfl (v_len rfl rfl Tryz.underlying28 rfl) ?_; refine o_q _ rfl rfl rfl (v_fieldAddr rfl Tryz.underlying30 inf27 rfl rfl rfl rfl) ?_; refine o_q _ rfl rfl rfl (v_ld1 rfl Tryz.underlying27 rfl rfl rfl) ?_; refine o_q _ rfl rfl rfl (v_len rfl rfl Tryz.underlying27 rfl) ?_; refine o_q _ rfl rfl rfl (v_max6 rfl rfl rfl rfl rfl rfl rfl) ?_; refine o_test rfl rfl rfl (v_gtr rfl rfl rfl) (fun h53 => ?_) (fun h53 => ?_)
 all_goals
  refine q_mv rfl rfl rfl rfl rfl ?_
  first | refine o_gn rfl rfl rfl rfl ?_ | refine o_g _ rfl rfl rfl rfl (v_ldW rfl Tryz.underlying25 rfl inf25 rfl rfl) ?_
  first | refine o_gn rfl rfl rfl rfl ?_ | refine o_gtest rfl rfl rfl rfl (OpQ.fn (BankK_v B lo mo lc mc (by omega) (by omega)) rfl rfl SubRC.sub) (fun h56 => ?_) (fun h56 => ?_)
  all_goals
   first | refine o_gn rfl rfl rfl rfl ?_ | refine o_g _ rfl rfl rfl rfl (v_not rfl rfl) ?_
   first | refine o_q _ rfl rfl rfl (v_pick_t rfl rfl rfl) ?_ | refine o_q _ rfl rfl rfl (v_pick_f rfl rfl rfl) ?_
   refine q_mv rfl rfl rfl rfl rfl ?_
   first | refine o_gn rfl rfl rfl rfl ?_ | refine o_g _ rfl rfl rfl rfl (v_fieldAddr rfl Tryz.underlying25 inf22 rfl rfl rfl rfl) ?_
   first | refine o_gn rfl rfl rfl rfl ?_ | refine o_g _ rfl rfl rfl rfl (v_ld1 rfl Tryz.underlying22 rfl rfl rfl) ?_
   first | refine o_gn rfl rfl rfl rfl ?_ | refine o_g _ rfl rfl rfl rfl (v_len rfl rfl Tryz.underlying22 rfl) ?_
   first | refine o_gn rfl rfl rfl rfl ?_ | refine o_gtest rfl rfl rfl rfl (v_gtr rfl rfl rfl) (fun h63 => ?_) (fun h63 => ?_)
   all_goals
    first | refine o_q _ rfl rfl rfl (v_pick_t rfl rfl rfl) ?_ | refine o_q _ rfl rfl rfl (v_pick_f rfl rfl rfl) ?_
    refine q_mv rfl rfl rfl rfl rfl ?_
    first | refine o_gn rfl rfl rfl rfl ?_ | refine o_g _ rfl rfl rfl rfl (v_ldW rfl Tryz.underlying30 rfl inf30 rfl rfl) ?_
    first | refine o_gn rfl rfl rfl rfl ?_ | refine o_gtest rfl rfl rfl rfl (OpQ.fn (DrainD_v D bo wo ro so bc wc rc sc (by omega) (by omega) (by omega) (by omega)) rfl rfl SubRC.sub) (fun h67 => ?_) (fun h67 => ?_)
    all_goals
     first | refine o_gn rfl rfl rfl rfl ?_ | refine o_g _ rfl rfl rfl rfl (v_not rfl rfl) ?_
     first | refine o_q _ rfl rfl rfl (v_pick_t rfl rfl rfl) ?_ | refine o_q _ rfl rfl rfl (v_pick_f rfl rfl rfl) ?_
     refine q_mv rfl rfl rfl rfl rfl ?_
     first | refine o_gn rfl rfl rfl rfl ?_ | refine o_g _ rfl rfl rfl rfl (v_fieldAddr rfl Tryz.underlying30 inf26 rfl rfl rfl rfl) ?_
     first | refine o_gn rfl rfl rfl rfl ?_ | refine o_g _ rfl rfl rfl rfl (v_ld1 rfl Tryz.underlying26 rfl rfl rfl) ?_
     first | refine o_gn rfl rfl rfl rfl ?_ | refine o_g _ rfl rfl rfl rfl (v_len rfl rfl Tryz.underlying26 rfl) ?_
     first | refine o_gn rfl rfl rfl rfl ?_ | refine o_g _ rfl rfl rfl rfl (v_fieldAddr rfl Tryz.underlying25 inf3 rfl rfl rfl rfl) ?_
     first | refine o_gn rfl rfl rfl rfl ?_ | refine o_g _ rfl rfl rfl rfl (v_ld1 rfl Tryz.underlying3 rfl rfl rfl) ?_
     first | refine o_gn rfl rfl rfl rfl ?_ | refine o_gtest rfl rfl rfl rfl (v_gtr rfl rfl rfl) (fun h76 => ?_) (fun h76 => ?_)
     all_goals
      first | refine o_q _ rfl rfl rfl (v_pick_t rfl rfl rfl) ?_ | refine o_q _ rfl rfl rfl (v_pick_f rfl rfl rfl) ?_
      refine o_nil (r_then ?_); refine r_cond rfl (fun hc77 => ?_) (fun hc77 => ?_)
      ·
       first
       | (exfalso; revert hc77; decide)
       |
        skip
        refine r_seq (r_region ?_); refine o_q _ rfl rfl rfl (OpQ.fn awake07_v rfl rfl SubRC.sub) ?_; refine q_as rfl rfl rfl rfl rfl ?_; refine o_nil (r_then ?_); refine r_ret ?_; (with_reducible refine r_then_ret ?_); exact r_retv2 (Rd.tmp rfl rfl) rfl SelMC.sel SubRC.sub
      ·
       first
       | (exfalso; revert hc77; decide)
       |
        skip
        refine r_skip (r_then ?_); refine r_seq ?_; have hK : GoodK B := by assumption
        have hD : GoodD D := by assumption
        obtain ⟨⟨hp1, hp10⟩, ⟨hh1, hh4⟩, hl4, hm6, hle, hmk⟩ := id hK; obtain ⟨⟨hb1, hb5⟩, hw7, hr4, hs4, hgb, hgw, hgr, hgs⟩ := id hD; have h3 : B.leases.length ≤ 3 := by omega
        have hbp : (D.banks.length : Int) ≤ B.perches := by omega
        have hf : Sod2.InD (Sod2.drawT bys) := Sod2.drawT_in hu; refine r_region ?_; refine o_q _ rfl rfl rfl (v_ldW rfl Tryz.underlying25 rfl inf25 rfl rfl) ?_; refine o_fnF (Truths_s B lo mo lc mc hK) rfl rfl rfl rfl rfl SubRC.sub (fun y80 => ?_); refine q_as rfl rfl rfl rfl rfl ?_; refine o_nil (r_then (r_seq ?_)); refine r_seq (r_region ?_); refine q_mv rfl rfl rfl rfl rfl ?_; refine o_q _ rfl rfl rfl (v_len rfl rfl Tryz.underlying35 rfl) ?_; refine o_q _ rfl rfl rfl (v_eql rfl rfl rfl) ?_; refine o_nil (r_then ?_); refine r_condd rfl (fun hc83 => ?_) (fun hc83 => ?_)
        ·
         refine r_seq (r_region ?_); refine o_q _ rfl rfl rfl (OpQ.fn awake07_v rfl rfl SubRC.sub) ?_; refine q_as rfl rfl rfl rfl rfl ?_; refine o_nil (r_then ?_); refine r_ret ?_; (with_reducible refine r_then_ret ?_); exact r_retv2 (Rd.tmp rfl rfl) rfl SelMC.sel SubRC.sub
        ·
         refine r_skip (r_then ?_); refine r_seq ?_; have hyl := trx_len hK h3 y80; have hyp : 0 < y80.1.2.length := by omega
         refine r_region ?_; refine q_mv rfl rfl rfl rfl rfl ?_; refine o_fnN (draws_s bys ba uc) rfl rfl rfl rfl rfl SubRC.sub (fun x86 _ => ?_); refine q_as rfl rfl rfl rfl rfl ?_; refine o_nil (r_then (r_seq (r_region ?_))); (iterate 3 refine q_mv rfl rfl rfl rfl rfl ?_); refine o_q _ rfl rfl rfl (v_len rfl rfl Tryz.underlying35 rfl) ?_; refine o_q _ rfl rfl rfl (v_cast (v := i64 ((y80.1.2.length - 1 : Nat) : Int)) (v_sub rfl rfl rfl (by omega)) (congrArg (Value.int .i64) (by omega))) ?_; refine o_q _ rfl rfl rfl (OpQ.fn (span04_v _ _) rfl rfl SubRC.sub) ?_; refine o_fnc (draw1_c bys ba uc hu hbl x86.1 x86.2 (0) ⟨0, ((y80.1.2.length - 1 : Nat) : Int)⟩ (by omega) (by show (0 : Int) ≤ ((y80.1.2.length - 1 : Nat) : Int); omega) (by show -1000 ≤ (0 : Int); omega) (by show ((y80.1.2.length - 1 : Nat) : Int) ≤ 1000; omega)) rfl [] [pt x86.1 0, pt x86.2 0] rfl rfl rfl rfl rfl rfl SubRC.sub ?_; have hdr := hf (0 + 1) ⟨0, ((y80.1.2.length - 1 : Nat) : Int)⟩ (by show (0 : Int) ≤ ((y80.1.2.length - 1 : Nat) : Int); omega); obtain ⟨j, hj⟩ : ∃ j : Nat, (Sod2.drawT bys) (0 + 1) ⟨0, ((y80.1.2.length - 1 : Nat) : Int)⟩ = (j : Int) := ⟨_, (Int.toNat_of_nonneg hdr.1).symm⟩; rw [hj] at hdr ⊢; have hjb : j < y80.1.2.length := by have h9 : (j : Int) ≤ ((y80.1.2.length - 1 : Nat) : Int) := hdr.2; omega
         obtain ⟨xa, hxa⟩ : ∃ xa, y80.1.2.getD j default = xa := ⟨_, rfl⟩; refine o_q _ rfl rfl rfl (v_indexAddrSn rfl Tryz.underlying35 inf41 rfl rfl rfl (by omega) rfl) ?_; refine o_q _ rfl rfl rfl (v_cast (v := valX xa.x xa.fo xa.to_ xa.fc xa.tc) (v_loadEN rfl Tryz.underlying41 rfl inf41 rfl (by omega) rfl rfl rfl) (by rw [← hxa]; rfl)) ?_; refine o_alloc rfl inf41 rfl rfl rfl rfl rfl (fun b9 => ?_); refine o_st rfl inf41 rfl rfl rfl rfl rfl rfl rfl rfl ?_; refine o_nil (r_then (r_seq ?_)); have hxm : xa ∈ y80.1.2 := by rw [← hxa, List.getD_eq_getElem?_getD, List.getElem?_eq_getElem hjb]; exact List.getElem_mem hjb
         have htx := trx_tru y80 hxm; have hw := ways0_pos hK htx; refine Imp.derive (ψ := rowD xa.fo 1 encI xa.x.f) ?_ (fun V hV => ((hV _ (InR.mem (φ := rowsX y80.1.2))) xa hxm).1); refine Imp.derive (ψ := rowD xa.to_ 1 encI xa.x.t) ?_ (fun V hV => ((hV _ (InR.mem (φ := rowsX y80.1.2))) xa hxm).2); refine Imp.box_to b9 [.slice xa.fo xa.x.f.length xa.fc, .slice xa.to_ xa.x.t.length xa.tc] rfl ?_; refine r_region ?_; refine o_q _ rfl rfl rfl (v_fieldAddr rfl Tryz.underlying30 inf27 rfl rfl rfl rfl) ?_; refine o_st rfl inf27 rfl rfl rfl rfl rfl rfl rfl rfl ?_; refine o_nil (r_then (r_seq ?_)); refine Imp.box_to b4 (cellsD (withR D D.rights) bo wo ro none bc wc rc 0) rfl ?_; refine r_region ?_; refine o_q _ rfl rfl rfl (v_ldW rfl Tryz.underlying30 rfl inf30 rfl rfl) ?_; refine o_alloc rfl inf30 rfl rfl rfl rfl rfl (fun b10 => ?_); refine o_st rfl inf30 rfl rfl rfl rfl rfl rfl rfl rfl ?_; refine o_nil (r_then (r_seq ?_)); refine Imp.box_to b10 (cellsD (withR D D.rights) bo wo ro none bc wc rc 0) rfl ?_; refine r_region ?_; refine o_q _ rfl rfl rfl (v_fieldAddr rfl Tryz.underlying30 inf28 rfl rfl rfl rfl) ?_; refine o_st rfl inf28 rfl rfl rfl rfl rfl rfl rfl rfl ?_; refine o_nil (r_then (r_seq ?_)); refine r_seq ?_; refine Imp.box_to b4 [.slice bo D.banks.length bc, .slice wo D.ways.length wc, .slice none 0 0, .slice none 0 0] rfl ?_; refine Imp.nilL 46 3 encR ?_; refine r_region ?_; refine o_q _ rfl rfl rfl (v_fieldAddr rfl Tryz.underlying30 inf28 rfl rfl rfl rfl) ?_; refine o_q _ rfl rfl rfl (v_ld1 rfl Tryz.underlying28 rfl rfl rfl) ?_; refine o_q _ rfl rfl rfl (v_len rfl rfl Tryz.underlying28 rfl) ?_; refine q_mv rfl rfl rfl rfl rfl ?_; refine o_nil (r_then ?_); refine r_block ?_; refine r_loop (ι := Nat × Value) (fun gh => gh.1 ≤ D.rights.length) (fun gh => [(3, pt b3 0), (4, pt b4 0), (9, pt b9 0), (10, pt b10 0), (8, .func (.func 38) #[] #[pt x86.1 0, pt x86.2 0]), (100, .slice ro D.rights.length rc), (101, i64 (D.rights.length : Int)), (102, i64 (gh.1 : Int))]) (fun gh => ownL gh.2 46 3 encR (rsT B D gh.1) :: bx x86.1 3 [i64 ((1 : Nat) : Int)] :: bx b4 30 [.slice bo D.banks.length bc, .slice wo D.ways.length wc, gh.2, .slice none 0 0] :: bx b3 25 (cellsK B lo mo lc mc) :: bx b9 41 [.slice xa.fo xa.x.f.length xa.fc, .slice xa.to_ xa.x.t.length xa.tc] :: bx b10 30 (cellsD (withR D D.rights) bo wo ro none bc wc rc 0) :: M) (fun gh => rowD xa.fo 1 encI xa.x.f :: rowD xa.to_ 1 encI xa.x.t :: boxF x86.2 31 [.slice ba bys.length uc] :: ([rowD lo 5 encLe B.leases, rowD mo 2 encMk B.marks, rowD bo 4 encDB D.banks, rowD wo 2 encDW D.ways, rowD ro 3 encR D.rights, rowD so 2 encDW D.seen, rowD ba 1 Foot4.encU bys] ++ Rf)) (fun gh => D.rights.length - gh.1) (0, .slice none 0 0) ?_ ?_ ?_
         ·
          refine Imp.own_to (.slice none 0 0) (rsT B D 0) (by rw [rsT]) ?_; refine Imp.box_to x86.1 [i64 ((1 : Nat) : Int)] (by rfl) ?_; exact r_here (by repeat (first | exact FSub.nil | refine FSub.cons rfl ?_)) SelMC.sel SubRC.sub
         ·
          exact Nat.zero_le _
         ·
          rintro ⟨k, v⟩ hI0; dsimp only at hI0; dsimp only; refine r_seq (r_region ?_); refine o_q _ rfl rfl rfl (v_lss rfl rfl rfl) ?_; refine o_nil (r_then (r_seq ?_)); refine r_condd rfl (fun hc103 => ?_) (fun hc103 => ?_)
          ·
           refine r_skip (r_then ?_); refine r_seq (r_block ?_); refine r_seq (r_region ?_); refine o_q _ rfl rfl rfl (v_indexAddrSn rfl Tryz.underlying28 inf46 rfl rfl rfl (by omega) rfl) ?_; refine o_q _ rfl rfl rfl (v_loadEN rfl Tryz.underlying46 rfl inf46 rfl (by omega) rfl rfl rfl) ?_; refine o_alloc rfl inf46 rfl rfl rfl rfl rfl (fun b12 => ?_); refine o_st rfl inf46 rfl rfl rfl rfl rfl rfl rfl rfl ?_; refine o_nil (r_then (r_seq ?_)); refine Imp.box_to b12 [i64 (D.rights.getD k default).of_, i64 (D.rights.getD k default).to_, i64 (D.rights.getD k default).most] rfl ?_; obtain ⟨hrt, hrm⟩ := hgr k (by omega); unfold TwoD at hrt; have hq1 := who_pos hK htx (D.rights.getD k default).of_; have hq2 := who_lt hK (D.rights.getD k default).of_; have hq3 := who_lt hK (D.rights.getD k default).to_; refine r_region ?_; refine o_q _ rfl rfl rfl (v_ldW rfl Tryz.underlying25 rfl inf25 rfl rfl) ?_; refine o_q _ rfl rfl rfl (v_fieldAddr rfl Tryz.underlying46 inf3 rfl rfl rfl rfl) ?_; refine o_q _ rfl rfl rfl (v_ld1 rfl Tryz.underlying3 rfl rfl rfl) ?_; refine o_q _ rfl rfl rfl (OpQ.fn (Whose_v B lo mo lc mc hK h3 hw (D.rights.getD k default).of_ (by omega)) rfl rfl SubRC.sub) ?_; refine q_mv rfl rfl rfl rfl rfl ?_; refine o_q _ rfl rfl rfl (v_extract rfl rfl rfl) ?_; refine o_q _ rfl rfl rfl (v_extract rfl rfl rfl) ?_; refine q_as rfl rfl rfl rfl rfl ?_; refine q_as rfl rfl rfl rfl rfl ?_; refine o_nil (r_then (r_seq (r_region ?_))); refine o_q _ rfl rfl rfl (v_ldW rfl Tryz.underlying25 rfl inf25 rfl rfl) ?_; refine o_q _ rfl rfl rfl (v_fieldAddr rfl Tryz.underlying46 inf3 rfl rfl rfl rfl) ?_; refine o_q _ rfl rfl rfl (v_ld1 rfl Tryz.underlying3 rfl rfl rfl) ?_; refine o_q _ rfl rfl rfl (OpQ.fn (Whose_v B lo mo lc mc hK h3 hw (D.rights.getD k default).to_ (by omega)) rfl rfl SubRC.sub) ?_; refine q_mv rfl rfl rfl rfl rfl ?_; refine o_q _ rfl rfl rfl (v_extract rfl rfl rfl) ?_; refine o_q _ rfl rfl rfl (v_extract rfl rfl rfl) ?_; refine q_as rfl rfl rfl rfl rfl ?_; refine q_as rfl rfl rfl rfl rfl ?_; refine o_nil (r_then (r_seq ?_)); refine r_seq (r_region ?_); refine q_mv rfl rfl rfl rfl rfl ?_; refine o_q _ rfl rfl rfl (v_false (v_neq rfl rfl rfl) (by omega)) ?_
           all_goals
            refine q_mv rfl rfl rfl rfl rfl ?_; refine o_g _ rfl rfl rfl rfl (v_move rfl rfl) ?_; refine o_g _ rfl rfl rfl rfl (v_false (v_neq rfl rfl rfl) (by omega)) ?_
            all_goals
             refine o_q _ rfl rfl rfl (v_pick_f rfl rfl rfl) ?_; refine o_nil (r_then ?_); refine r_cond rfl (fun hc125 => ?_) (fun hc125 => ?_)
             ·
              (exfalso; revert hc125; decide)
             ·
              refine r_skip (r_then (r_seq (r_region ?_))); refine q_mv rfl rfl rfl rfl rfl ?_; refine q_mv rfl rfl rfl rfl rfl ?_; refine o_test rfl rfl rfl (v_neq rfl rfl rfl) (fun h128 => ?_) (fun h128 => ?_)
              all_goals
               refine q_mv rfl rfl rfl rfl rfl ?_
               first | refine o_gn rfl rfl rfl rfl ?_ | refine o_g _ rfl rfl rfl rfl (v_move rfl rfl) ?_
               first | refine o_gn rfl rfl rfl rfl ?_ | refine o_g _ rfl rfl rfl rfl (v_move rfl rfl) ?_
               first | refine o_gn rfl rfl rfl rfl ?_ | refine o_g _ rfl rfl rfl rfl (v_cast (v := i64 ((whoseB B (D.rights.getD k default).of_ - 1 : Nat) : Int)) (v_sub rfl rfl rfl (by omega)) (congrArg (Value.int .i64) (by omega))) ?_
               first | refine o_gn rfl rfl rfl rfl ?_ | refine o_g _ rfl rfl rfl rfl (v_andn (a := whoseB B (D.rights.getD k default).of_) (b := whoseB B (D.rights.getD k default).of_ - 1) rfl rfl rfl (by omega) (by omega)) ?_
               first | refine o_gn rfl rfl rfl rfl ?_ | refine o_gtest rfl rfl rfl rfl (v_neq rfl rfl rfl) (fun h134 => ?_) (fun h134 => ?_)
               all_goals
                first | refine o_q _ rfl rfl rfl (v_pick_t rfl rfl rfl) ?_ | refine o_q _ rfl rfl rfl (v_pick_f rfl rfl rfl) ?_
                refine o_nil (r_then ?_); refine r_cond rfl (fun hc135 => ?_) (fun hc135 => ?_)
                ·
                 first
                 | (exfalso; revert hc135; decide)
                 |
                  skip
                  have hrl := rsT_len (B := B) (D := D) k; refine r_region ?_; refine o_q _ rfl rfl rfl (v_fieldAddr rfl Tryz.underlying30 inf28 rfl rfl rfl rfl) ?_; refine o_q _ rfl rfl rfl (v_ld1 rfl Tryz.underlying28 rfl rfl rfl) ?_; refine o_q _ rfl rfl rfl (v_ldW rfl Tryz.underlying46 rfl inf46 rfl rfl) ?_; refine o_lit rfl Tryz.underlying28 inf46 rfl rfl rfl rfl rfl rfl rfl rfl (by repeat (first | exact trivial | refine ⟨rfl, ?_⟩)) (by rfl) (fun b139 => ?_); refine o_app1 ((D.rights.getD k default)) rfl Tryz.underlying28 inf46 rfl (by rfl) (by rfl) rfl rfl rfl rfl rfl (by rfl) (by rfl) (by rfl) (by first | omega | (constructor <;> first | omega | decide)) (fun v140 => ?_); refine Imp.own_is v140 (fun hs140 => ?_); obtain ⟨oa140, cp140, rfl⟩ := hs140; refine o_q _ rfl rfl rfl (v_fieldAddr rfl Tryz.underlying30 inf28 rfl rfl rfl rfl) ?_; refine o_st rfl inf28 rfl rfl rfl rfl rfl rfl rfl rfl ?_; refine o_nil ?_; refine r_in_normal ?_; refine r_then ?_; refine r_region ?_; refine o_q _ rfl rfl rfl (v_add rfl rfl rfl (by omega)) ?_; refine q_mv rfl rfl rfl rfl rfl ?_; refine o_nil (r_then ?_); exact r_next ((k + 1, .slice oa140 (rsT B D k ++ [(D.rights.getD k default)]).length cp140)) (by refine Imp.own_to (.slice oa140 (rsT B D k ++ [(D.rights.getD k default)]).length cp140) (rsT B D (k + 1)) (rsT_y (by unfold Cnts; omega)) ?_; refine Imp.box_to b4 [.slice bo D.banks.length bc, .slice wo D.ways.length wc, .slice oa140 (rsT B D k ++ [(D.rights.getD k default)]).length cp140, .slice none 0 0] rfl ?_; exact r_here (by repeat (first | exact FSub.nil | refine FSub.cons rfl ?_)) SelMC.sel SubRC.sub) (by show k + 1 ≤ D.rights.length; omega) (by show D.rights.length - (k + 1) < D.rights.length - k; omega)
                ·
                 first
                 | (exfalso; revert hc135; decide)
                 |
                  skip
                  refine r_skip ?_; refine r_in_normal ?_; refine r_then ?_; refine r_region ?_; refine o_q _ rfl rfl rfl (v_add rfl rfl rfl (by omega)) ?_; refine q_mv rfl rfl rfl rfl rfl ?_; refine o_nil (r_then ?_); exact r_next ((k + 1, v)) (by refine Imp.own_to v (rsT B D (k + 1)) (rsT_n (by unfold Cnts; omega)) ?_; exact r_here (by repeat (first | exact FSub.nil | refine FSub.cons rfl ?_)) SelMC.sel SubRC.sub) (by show k + 1 ≤ D.rights.length; omega) (by show D.rights.length - (k + 1) < D.rights.length - k; omega)
          ·
           refine r_exit ?_; refine r_then_exit ?_; refine r_then_exit ?_; refine r_in_here ?_; refine r_then (r_seq ?_); obtain rfl : k = D.rights.length := by omega
           refine Imp.settleS v encR_len (fun oz cz hz => ?_); subst hz; obtain ⟨rs, hrs⟩ : ∃ rs, rsT B D D.rights.length = rs := ⟨_, rfl⟩; rw [hrs]; refine Imp.box_to b4 (cellsD (withR D rs) bo wo oz none bc wc cz 0) rfl ?_; have hrs2 : rs = D.rights.filter fun r => decide (Cnts B r) := by rw [← hrs, rsT_end]
           obtain ⟨hg2, hmany, hsl⟩ := stop_law hD hrs2; have hg1 := good_w hD; obtain ⟨s, hs⟩ : ∃ s, stopD (withR D rs) = s := ⟨_, rfl⟩; rw [hs] at hmany hsl; have h27 : 2 ^ D.ways.length ≤ 2 ^ 7 := Nat.pow_le_pow_right (by decide) (by omega); have hsh : s >>> D.ways.length = 0 := by rw [Nat.shiftRight_eq_div_pow]; exact Nat.div_eq_of_lt hsl
           refine r_region ?_; refine o_q _ rfl rfl rfl (v_ldW rfl Tryz.underlying30 rfl inf30 rfl rfl) ?_; refine o_q _ rfl rfl rfl (v_cast (v := .tuple #[i64 ((cnt s : Nat) : Int), i64 ((s : Nat) : Int), i64 0]) (OpQ.fn (Stop_v (withR D rs) bo wo oz none bc wc cz 0 hg2 rfl) rfl rfl SubRC.sub) (by rw [hs])) ?_; refine q_mv rfl rfl rfl rfl rfl ?_; (iterate 3 refine o_q _ rfl rfl rfl (v_extract rfl rfl rfl) ?_); (iterate 3 refine q_as rfl rfl rfl rfl rfl ?_); refine o_nil (r_then (r_seq (r_region ?_))); refine o_q _ rfl rfl rfl (v_ldW rfl Tryz.underlying30 rfl inf30 rfl rfl) ?_; refine o_q _ rfl rfl rfl (OpQ.fn (Stop_v (withR D D.rights) bo wo ro none bc wc rc 0 hg1 rfl) rfl rfl SubRC.sub) ?_; refine q_mv rfl rfl rfl rfl rfl ?_; (iterate 3 refine o_q _ rfl rfl rfl (v_extract rfl rfl rfl) ?_); (iterate 3 refine q_as rfl rfl rfl rfl rfl ?_); refine o_nil (r_then (r_seq ?_)); refine r_seq (r_region ?_); refine q_mv rfl rfl rfl rfl rfl ?_; refine o_q _ rfl rfl rfl (v_false (v_neq rfl rfl rfl) (by omega)) ?_
           all_goals
            refine q_mv rfl rfl rfl rfl rfl ?_; refine o_g _ rfl rfl rfl rfl (v_move rfl rfl) ?_; refine o_g _ rfl rfl rfl rfl (v_false (v_neq rfl rfl rfl) (by omega)) ?_
            all_goals
             refine o_q _ rfl rfl rfl (v_pick_f rfl rfl rfl) ?_; refine q_mv rfl rfl rfl rfl rfl ?_; refine o_g _ rfl rfl rfl rfl (v_move rfl rfl) ?_; refine o_g _ rfl rfl rfl rfl (v_false (v_lss rfl rfl rfl) (by omega)) ?_
             all_goals
              refine o_q _ rfl rfl rfl (v_pick_f rfl rfl rfl) ?_; refine q_mv rfl rfl rfl rfl rfl ?_; refine o_g _ rfl rfl rfl rfl (v_move rfl rfl) ?_; refine o_g _ rfl rfl rfl rfl (v_fieldAddr rfl Tryz.underlying30 inf27 rfl rfl rfl rfl) ?_; refine o_g _ rfl rfl rfl rfl (v_ld1 rfl Tryz.underlying27 rfl rfl rfl) ?_; refine o_g _ rfl rfl rfl rfl (v_len rfl rfl Tryz.underlying27 rfl) ?_; refine o_g _ rfl rfl rfl rfl (v_cast (v := i64 0) (v_shrn (a := s) (h := D.ways.length) rfl rfl rfl (by omega) (by omega)) (by rw [hsh]; rfl)) ?_; refine o_g _ rfl rfl rfl rfl (v_false (v_neq rfl rfl rfl) (by omega)) ?_
              all_goals
               refine o_q _ rfl rfl rfl (v_pick_f rfl rfl rfl) ?_; refine q_mv rfl rfl rfl rfl rfl ?_; refine o_g _ rfl rfl rfl rfl (v_move rfl rfl) ?_; refine o_g _ rfl rfl rfl rfl (v_move rfl rfl) ?_; refine o_g _ rfl rfl rfl rfl (v_false (v_gtr rfl rfl rfl) (by omega)) ?_
               all_goals
                refine o_q _ rfl rfl rfl (v_pick_f rfl rfl rfl) ?_; refine o_nil (r_then ?_); refine r_cond rfl (fun hc177 => ?_) (fun hc177 => ?_)
                ·
                 (exfalso; revert hc177; decide)
                ·
                 refine r_skip (r_then (r_seq (r_region ?_))); refine q_as rfl rfl rfl rfl rfl ?_; refine q_as rfl rfl rfl rfl rfl ?_; refine o_nil (r_then (r_seq ?_)); refine r_seq ?_; refine Imp.nilL 3 1 encI ?_; refine Imp.own_to (.slice none 0 0) (lvT (Sod2.drawT bys) D 0) (by rw [lvT]) ?_; refine Imp.nilL 3 1 encI ?_; refine Imp.own_to (.slice none 0 0) (ysT (Sod2.drawT bys) D 0) (by rw [ysT]) ?_; refine r_region ?_; refine o_q _ rfl rfl rfl (v_fieldAddr rfl Tryz.underlying30 inf26 rfl rfl rfl rfl) ?_; refine o_q _ rfl rfl rfl (v_ld1 rfl Tryz.underlying26 rfl rfl rfl) ?_; refine o_q _ rfl rfl rfl (v_len rfl rfl Tryz.underlying26 rfl) ?_; refine q_mv rfl rfl rfl rfl rfl ?_; refine o_nil (r_then ?_); refine r_block ?_; refine r_loop (ι := Nat × Value × Value) (fun gh => gh.1 ≤ D.banks.length) (fun gh => [(3, pt b3 0), (4, pt b4 0), (9, pt b9 0), (10, pt b10 0), (8, .func (.func 38) #[] #[pt x86.1 0, pt x86.2 0]), (18, i64 ((s : Nat) : Int)), (23, gh.2.1), (24, gh.2.2), (179, .slice bo D.banks.length bc), (180, i64 (D.banks.length : Int)), (181, i64 (gh.1 : Int))]) (fun gh => ownL gh.2.1 3 1 encI (lvT (Sod2.drawT bys) D gh.1) :: ownL gh.2.2 3 1 encI (ysT (Sod2.drawT bys) D gh.1) :: bx x86.1 3 [i64 ((1 + 2 * gh.1 : Nat) : Int)] :: bx b4 30 (cellsD (withR D rs) bo wo oz none bc wc cz 0) :: bx b3 25 (cellsK B lo mo lc mc) :: bx b9 41 [.slice xa.fo xa.x.f.length xa.fc, .slice xa.to_ xa.x.t.length xa.tc] :: bx b10 30 (cellsD (withR D D.rights) bo wo ro none bc wc rc 0) :: M) (fun gh => rowD oz 3 encR rs :: rowD xa.fo 1 encI xa.x.f :: rowD xa.to_ 1 encI xa.x.t :: boxF x86.2 31 [.slice ba bys.length uc] :: ([rowD lo 5 encLe B.leases, rowD mo 2 encMk B.marks, rowD bo 4 encDB D.banks, rowD wo 2 encDW D.ways, rowD ro 3 encR D.rights, rowD so 2 encDW D.seen, rowD ba 1 Foot4.encU bys] ++ Rf)) (fun gh => D.banks.length - gh.1) (0, .slice none 0 0, .slice none 0 0) ?_ ?_ ?_
                 ·
                  refine Imp.box_to x86.1 [i64 ((1 + 2 * 0 : Nat) : Int)] (by rfl) ?_; exact r_here (by repeat (first | exact FSub.nil | refine FSub.cons rfl ?_)) SelMC.sel SubRC.sub
                 ·
                  exact Nat.zero_le _
                 ·
                  rintro ⟨k, v, w⟩ hI1; dsimp only at hI1; dsimp only; refine r_seq (r_region ?_); refine o_q _ rfl rfl rfl (v_lss rfl rfl rfl) ?_; refine o_nil (r_then (r_seq ?_)); refine r_condd rfl (fun hc182 => ?_) (fun hc182 => ?_)
                  ·
                   refine r_skip (r_then ?_); refine r_seq (r_block ?_); refine r_seq (r_region ?_); refine o_q _ rfl rfl rfl (v_indexAddrSn rfl Tryz.underlying26 inf53 rfl rfl rfl (by omega) rfl) ?_; refine o_q _ rfl rfl rfl (v_loadEN rfl Tryz.underlying53 rfl inf53 rfl (by omega) rfl rfl rfl) ?_; refine o_alloc rfl inf53 rfl rfl rfl rfl rfl (fun b26 => ?_); refine o_st rfl inf53 rfl rfl rfl rfl rfl rfl rfl rfl ?_; refine o_nil (r_then ?_); refine Imp.box_to b26 (encDB (D.banks.getD k default)) rfl ?_; refine Imp.sealB b26 ?_; obtain ⟨e1, e2⟩ := hgb k (by omega); unfold SpanD at e1 e2; have hlen1 : (lvT (Sod2.drawT bys) D k).length = k := lvT_len; have hlen2 : (ysT (Sod2.drawT bys) D k).length = k := ysT_len; refine r_parPZ [0, 1, 2, 3, 7, 8, 9, 10, 4, 5, 6, 11, 12, 13, 14, 15] (by kernel_rfl) rfl (fun w => w.heap[b26]? = some (.cells (encDB (D.banks.getD k default)).toArray 53 (0, 0))) (fun X F w h => h.fact (φ := boxF b26 53 (encDB (D.banks.getD k default))) (List.mem_append_right _ InR.mem)) [0, 4, 5, 6, 7] 8 (by kernel_rfl) (by kernel_rfl) (by kernel_rfl) (by kernel_rfl) (by kernel_rfl) mixed (by kernel_rfl) (by rfl) ?_; refine p_q _ rfl rfl rfl (fun _ _ => v_move rfl rfl) ?_; refine p_q _ rfl rfl rfl (fun _ _ => v_move rfl rfl) ?_; refine p_q _ rfl rfl rfl (fun _ _ => v_fieldAddr rfl Tryz.underlying53 inf43 rfl rfl rfl rfl) ?_; refine p_q _ rfl rfl rfl (fun _ _ => v_lfN rfl Tryz.underlying43 rfl inf43 rfl rfl rfl) ?_; refine p_q _ rfl rfl rfl (fun _ _ => v_move rfl rfl) ?_; refine p_q _ rfl rfl rfl (fun _ _ => v_move rfl rfl) ?_; refine p_q _ rfl rfl rfl (fun _ _ => v_fieldAddr rfl Tryz.underlying53 inf43 rfl rfl rfl rfl) ?_; refine p_q _ rfl rfl rfl (fun _ _ => v_lfN rfl Tryz.underlying43 rfl inf43 rfl rfl rfl) ?_; refine p_nilF (by simp only [List.nil_append, List.cons_append]; rfl) rfl ⟨⟨_, _, _, rfl, rfl, rfl, rfl, rfl, float_mv rfl rfl⟩, ⟨_, _, _, rfl, rfl, rfl, rfl, rfl, float_mv rfl rfl⟩, ⟨_, _, _, rfl, rfl, rfl, rfl, rfl, float_mv rfl rfl⟩, ⟨_, _, _, rfl, rfl, rfl, rfl, rfl, float_field rfl Tryz.underlying53 inf43 rfl rfl rfl rfl⟩, ⟨_, _, _, rfl, rfl, rfl, rfl, rfl, float_loadS (vs := encDB (D.banks.getD k default)) (B := 53) [i64 (D.banks.getD k default).ylo, i64 (D.banks.getD k default).yhi] rfl Tryz.underlying43 rfl inf43 rfl rfl (fun j hj => (by have hj2 : j < 2 := hj; obtain rfl | rfl : j = 0 ∨ j = 1 := (by omega) <;> rfl)) (fun _ h => h)⟩, trivial⟩ ?_; (iterate 8 refine f_q rfl ?_); refine f_nil ?_; refine oz_lift (fun w h => h.fact (φ := boxF b26 53 (encDB (D.banks.getD k default))) InR.mem) ?_
                   refine o_fnc (draw1_c bys ba uc hu hbl x86.1 x86.2 (1 + 2 * k) ⟨(D.banks.getD k default).llo, (D.banks.getD k default).lhi⟩ (by omega) (by show (D.banks.getD k default).llo ≤ (D.banks.getD k default).lhi; omega) (by show -1000 ≤ (D.banks.getD k default).llo; omega) (by show (D.banks.getD k default).lhi ≤ 1000; omega)) rfl [] [pt x86.1 0, pt x86.2 0] rfl rfl rfl rfl rfl rfl SubRC.sub ?_; refine o_nil (r_then ?_); refine oz_lift (fun w h => h.fact (φ := boxF b26 53 (encDB (D.banks.getD k default))) InR.mem) ?_; refine o_lit rfl Tryz.underlying39 inf3 rfl rfl rfl rfl rfl rfl rfl rfl (by repeat (first | exact trivial | refine ⟨rfl, ?_⟩)) (by rfl) (fun b190 => ?_); refine o_nil (r_then ?_); refine oz_lift (fun w h => h.fact (φ := boxF b26 53 (encDB (D.banks.getD k default))) InR.mem) ?_; refine o_app1 (((Sod2.drawT bys) (1 + 2 * k + 1) ⟨(D.banks.getD k default).llo, (D.banks.getD k default).lhi⟩)) rfl Tryz.underlying39 inf3 rfl (by rfl) (by rfl) rfl rfl rfl rfl rfl (by rfl) (by rfl) (by rfl) (by first | omega | (constructor <;> first | omega | decide)) (fun v191 => ?_); refine o_nil (r_then ?_); refine oz_lift (fun w h => h.fact (φ := boxF b26 53 (encDB (D.banks.getD k default))) InR.mem) ?_; refine o_fnc (draw1_c bys ba uc hu hbl x86.1 x86.2 (1 + 2 * k + 1) ⟨(D.banks.getD k default).ylo, (D.banks.getD k default).yhi⟩ (by omega) (by show (D.banks.getD k default).ylo ≤ (D.banks.getD k default).yhi; omega) (by show -1000 ≤ (D.banks.getD k default).ylo; omega) (by show (D.banks.getD k default).yhi ≤ 1000; omega)) rfl [] [pt x86.1 0, pt x86.2 0] rfl rfl rfl rfl rfl rfl SubRC.sub ?_; refine o_nil (r_then ?_); refine oz_lift (fun w h => h.fact (φ := boxF b26 53 (encDB (D.banks.getD k default))) InR.mem) ?_; refine o_lit rfl Tryz.underlying39 inf3 rfl rfl rfl rfl rfl rfl rfl rfl (by repeat (first | exact trivial | refine ⟨rfl, ?_⟩)) (by rfl) (fun b197 => ?_); refine o_nil (r_then ?_); refine oz_lift (fun w h => h.fact (φ := boxF b26 53 (encDB (D.banks.getD k default))) InR.mem) ?_; refine o_app1 (((Sod2.drawT bys) (1 + 2 * k + 1 + 1) ⟨(D.banks.getD k default).ylo, (D.banks.getD k default).yhi⟩)) rfl Tryz.underlying39 inf3 rfl (by rfl) (by rfl) rfl rfl rfl rfl rfl (by rfl) (by rfl) (by rfl) (by first | omega | (constructor <;> first | omega | decide)) (fun v198 => ?_); refine o_nil (r_then ?_); refine oz_lift (fun w h => h.fact (φ := boxF b26 53 (encDB (D.banks.getD k default))) InR.mem) ?_; refine q_as rfl rfl rfl rfl rfl ?_; refine o_nil (r_then ?_); refine oz_lift (fun w h => h.fact (φ := boxF b26 53 (encDB (D.banks.getD k default))) InR.mem) ?_; refine q_as rfl rfl rfl rfl rfl ?_; refine o_nil (r_then ?_); refine oz_nil (fun w h => h.fact (φ := boxF b26 53 (encDB (D.banks.getD k default))) InR.mem) ?_; refine r_nop ?_; refine r_in_normal ?_; refine r_then ?_; refine r_region ?_
                   refine o_q _ rfl rfl rfl (v_add rfl rfl rfl (by omega)) ?_; refine q_mv rfl rfl rfl rfl rfl ?_; refine o_nil (r_then ?_); exact r_next ((k + 1, v191, v198)) (by refine Imp.own_to v191 (lvT (Sod2.drawT bys) D (k + 1)) lvT_s ?_; refine Imp.own_to v198 (ysT (Sod2.drawT bys) D (k + 1)) ysT_s ?_; refine Imp.box_to x86.1 [i64 ((1 + 2 * (k + 1) : Nat) : Int)] (by rfl) ?_; exact r_here (by repeat (first | exact FSub.nil | refine FSub.cons rfl ?_)) SelMC.sel SubRC.sub) (by show k + 1 ≤ D.banks.length; omega) (by show D.banks.length - (k + 1) < D.banks.length - k; omega)
                  ·
                   refine r_exit ?_; refine r_then_exit ?_; refine r_then_exit ?_; refine r_in_here ?_; refine r_then (r_seq ?_); obtain rfl : k = D.banks.length := by omega
                   refine Imp.settleS v encI_len (fun ol cl hv => ?_); subst hv; refine Imp.settleS w encI_len (fun oy cy hv => ?_); subst hv; have hib := lvT_in hf hD; have hiy := ysT_in hf hD; obtain ⟨lv, hlv⟩ : ∃ l, lvT (Sod2.drawT bys) D D.banks.length = l := ⟨_, rfl⟩; obtain ⟨ys, hys⟩ : ∃ l, ysT (Sod2.drawT bys) D D.banks.length = l := ⟨_, rfl⟩; rw [hlv] at hib ⊢; rw [hys] at hiy ⊢; obtain ⟨op, hop⟩ : ∃ op, 2 ^ D.ways.length - 1 - s = op := ⟨_, rfl⟩; have hll := hib.1; have hyl2 := hiy.1; refine r_region ?_; refine o_q _ rfl rfl rfl (v_ldW rfl Tryz.underlying30 rfl inf30 rfl rfl) ?_; refine o_q _ rfl rfl rfl (v_cast (v := i64 ((2 ^ D.ways.length - 1 : Nat) : Int)) (OpQ.fn (every07_v (withR D rs) bo wo oz none bc wc cz 0 hg2) rfl rfl SubRC.sub) rfl) ?_; refine q_mv rfl rfl rfl rfl rfl ?_; refine o_q _ rfl rfl rfl (v_cast (v := i64 ((op : Nat) : Int)) (v_sub rfl rfl rfl (by omega)) (congrArg (Value.int .i64) (by omega))) ?_; refine q_as rfl rfl rfl rfl rfl ?_; refine o_nil (r_then (r_seq (r_region ?_))); refine q_mv rfl rfl rfl rfl rfl ?_; refine o_q _ rfl rfl rfl (v_len rfl rfl Tryz.underlying39 rfl) ?_; refine o_make (enc := encI) (0 : Int) rfl Tryz.underlying39 inf3 rfl rfl rfl rfl rfl rfl rfl rfl rfl (Nat.le_refl _) ⟨by omega, by decide⟩ (fun b206 => ?_); refine q_as rfl rfl rfl rfl rfl ?_; refine o_nil (r_then (r_seq ?_)); refine r_seq ?_; refine Imp.own_to (.slice (some ⟨b206, 0, none⟩) lv.length lv.length) (wtrD D.banks.length (nxD D lv op) ys 0 (0)) (by rw [wtr_zero, hib.1]) ?_; refine Imp.boxOwnN (n0 := lv.length) (xs := (wtrD D.banks.length (nxD D lv op) ys 0 (0))) (b := b206) ((wtr_len ..).trans hib.1.symm) ?_; refine r_region ?_; refine q_mv rfl rfl rfl rfl rfl ?_; refine o_q _ rfl rfl rfl (v_len rfl rfl Tryz.underlying39 rfl) ?_; refine q_mv rfl rfl rfl rfl rfl ?_; refine o_nil (r_then ?_); refine r_block ?_
                   refine r_loop (ι := Nat) (fun i => i ≤ ys.length) (fun i => [(3, pt b3 0), (4, pt b4 0), (9, pt b9 0), (10, pt b10 0), (23, .slice ol lv.length cl), (27, i64 ((op : Nat) : Int)), (28, .slice (some ⟨b206, 0, none⟩) lv.length lv.length), (207, .slice oy ys.length cy), (208, i64 (ys.length : Int)), (209, i64 (i : Int))]) (fun i => bx b206 3 ((wtrD D.banks.length (nxD D lv op) ys i (0)).flatMap encI) :: bx b4 30 (cellsD (withR D rs) bo wo oz none bc wc cz 0) :: bx b3 25 (cellsK B lo mo lc mc) :: bx b9 41 [.slice xa.fo xa.x.f.length xa.fc, .slice xa.to_ xa.x.t.length xa.tc] :: bx b10 30 (cellsD (withR D D.rights) bo wo ro none bc wc rc 0) :: M) (fun i => rowD ol 1 encI lv :: rowD oy 1 encI ys :: rowD oz 3 encR rs :: rowD xa.fo 1 encI xa.x.f :: rowD xa.to_ 1 encI xa.x.t :: boxF x86.2 31 [.slice ba bys.length uc] :: ([rowD lo 5 encLe B.leases, rowD mo 2 encMk B.marks, rowD bo 4 encDB D.banks, rowD wo 2 encDW D.ways, rowD ro 3 encR D.rights, rowD so 2 encDW D.seen, rowD ba 1 Foot4.encU bys] ++ Rf)) (fun i => ys.length - i) 0 ?_ ?_ ?_
                   ·
                    exact r_here (by repeat (first | exact FSub.nil | refine FSub.cons rfl ?_)) SelMC.sel SubRC.sub
                   ·
                    omega
                   ·
                    rintro i hI2; refine r_seq (r_region ?_); refine o_q _ rfl rfl rfl (v_lss rfl rfl rfl) ?_; refine o_nil (r_then (r_seq ?_)); refine r_condd rfl (fun hc210 => ?_) (fun hc210 => ?_)
                    ·
                     refine r_skip (r_then ?_); refine r_seq (r_block ?_); refine r_seq (r_region ?_); refine q_mv rfl rfl rfl rfl rfl ?_; refine o_q _ rfl rfl rfl (v_indexAddrSn rfl Tryz.underlying39 inf3 rfl rfl rfl (by omega) rfl) ?_; refine o_q _ rfl rfl rfl (v_cast (v := i64 (ys.getD i 0)) (v_loadE1 rfl Tryz.underlying3 rfl rfl (by omega) rfl rfl) rfl) ?_; refine q_as rfl rfl rfl rfl rfl ?_; refine q_as rfl rfl rfl rfl rfl ?_; refine o_nil (r_then (r_seq (r_region ?_))); refine q_mv rfl rfl rfl rfl rfl ?_; refine q_as rfl rfl rfl rfl rfl ?_; refine o_nil (r_then ?_); refine r_block ?_; refine r_loop (ι := Nat) (fun k => k ≤ 22) (fun k => [(3, pt b3 0), (4, pt b4 0), (9, pt b9 0), (10, pt b10 0), (23, .slice ol lv.length cl), (27, i64 ((op : Nat) : Int)), (28, .slice (some ⟨b206, 0, none⟩) lv.length lv.length), (207, .slice oy ys.length cy), (208, i64 (ys.length : Int)), (209, i64 (i : Int)), (29, i64 (i : Int)), (30, i64 (ys.getD i 0)), (31, i64 (((itD D.banks.length (nxD D lv op) i (k)) : Nat) : Int))]) (fun k => bx b206 3 ((wtrD D.banks.length (nxD D lv op) ys i (k)).flatMap encI) :: bx b4 30 (cellsD (withR D rs) bo wo oz none bc wc cz 0) :: bx b3 25 (cellsK B lo mo lc mc) :: bx b9 41 [.slice xa.fo xa.x.f.length xa.fc, .slice xa.to_ xa.x.t.length xa.tc] :: bx b10 30 (cellsD (withR D D.rights) bo wo ro none bc wc rc 0) :: M) (fun k => rowD ol 1 encI lv :: rowD oy 1 encI ys :: rowD oz 3 encR rs :: rowD xa.fo 1 encI xa.x.f :: rowD xa.to_ 1 encI xa.x.t :: boxF x86.2 31 [.slice ba bys.length uc] :: ([rowD lo 5 encLe B.leases, rowD mo 2 encMk B.marks, rowD bo 4 encDB D.banks, rowD wo 2 encDW D.ways, rowD ro 3 encR D.rights, rowD so 2 encDW D.seen, rowD ba 1 Foot4.encU bys] ++ Rf)) (fun k => 22 - k) 0 ?_ ?_ ?_
                     ·
                      exact r_here (by repeat (first | exact FSub.nil | refine FSub.cons rfl ?_ | refine FSub.cons2 rfl (by rw [itD]) ?_)) SelMC.sel SubRC.sub
                     ·
                      omega
                     ·
                      rintro k hI3; refine r_seq ?_; refine r_seq (r_region ?_); refine q_mv rfl rfl rfl rfl rfl ?_; refine q_mv rfl rfl rfl rfl rfl ?_; refine o_q _ rfl rfl rfl (v_len rfl rfl Tryz.underlying39 rfl) ?_; refine o_q _ rfl rfl rfl (v_lss rfl rfl rfl) ?_; refine o_nil (r_then ?_); refine r_condd rfl (fun hc218 => ?_) (fun hc218 => ?_)
                      ·
                       refine r_skip (r_then ?_); refine r_seq (r_block ?_); have hit : (itD D.banks.length (nxD D lv op) i (k)) < D.banks.length := by omega
                       have hke : k ≤ 20 := by rw [← hop] at hit; exact run_end hD hib hsl hit
                       have hwb := wtr_bd hD (nx := (nxD D lv op)) hiy (i := i) (k := k) (b := (itD D.banks.length (nxD D lv op) i (k))) (by omega) (by omega) hit; have hyi := hiy.2 i (by omega); have hgi := (hgb i (by omega)).2; unfold SpanD at hgi; refine r_region ?_; refine q_mv rfl rfl rfl rfl rfl ?_; refine q_mv rfl rfl rfl rfl rfl ?_; refine o_q _ rfl rfl rfl (v_indexAddrB rfl Tryz.underlying39 inf3 rfl rfl (by omega)) ?_; refine o_q _ rfl rfl rfl (v_cast (v := i64 ((wtrD D.banks.length (nxD D lv op) ys i (k)).getD (itD D.banks.length (nxD D lv op) i (k)) 0)) (v_ld1 rfl Tryz.underlying3 rfl rfl (boxI_get (by rw [wtr_len]; exact hit))) rfl) ?_; refine q_mv rfl rfl rfl rfl rfl ?_; refine o_q _ rfl rfl rfl (v_cast (v := i64 ((wtrD D.banks.length (nxD D lv op) ys i (k)).getD (itD D.banks.length (nxD D lv op) i (k)) 0 + ys.getD i 0)) (v_add rfl rfl rfl (by omega)) rfl) ?_; refine o_q _ rfl rfl rfl (v_indexAddrB rfl Tryz.underlying39 inf3 rfl rfl (by omega)) ?_; refine o_st rfl inf3 rfl rfl rfl rfl rfl rfl rfl (boxI_ble (by rw [wtr_len]; exact hit)) ?_; refine o_nil ?_; refine r_in_normal ?_; refine r_then ?_; refine Imp.box_to b206 ((wtrD D.banks.length (nxD D lv op) ys i (k + 1)).flatMap encI) ((boxI_set (by rw [wtr_len]; exact hit)).trans (congrArg (List.flatMap encI) (wtr_set hit))) ?_; refine r_region ?_; refine o_q _ rfl rfl rfl (v_ldW rfl Tryz.underlying30 rfl inf30 rfl rfl) ?_; (iterate 3 refine q_mv rfl rfl rfl rfl rfl ?_); refine o_q _ rfl rfl rfl (v_cast (v := i64 (((itD D.banks.length (nxD D lv op) i (k + 1)) : Nat) : Int)) (OpQ.fn (next07_v (withR D rs) bo wo oz none bc wc cz 0 hg2 lv ol cl hib.1 op (itD D.banks.length (nxD D lv op) i (k)) (by omega) hit) rfl rfl SubRC.sub) (by rw [it_y hit, nx_w])) ?_; refine q_as rfl rfl rfl rfl rfl ?_; refine o_nil (r_then ?_); refine r_next (k + 1) ?_ ?_ ?_
                       ·
                        exact r_here (by repeat (first | exact FSub.nil | refine FSub.cons rfl ?_)) SelMC.sel SubRC.sub
                       ·
                        omega
                       ·
                        omega
                      ·
                       refine r_exit ?_; refine r_then_exit ?_; refine r_then_exit ?_; refine r_in_here ?_; refine r_in_normal ?_; refine r_then ?_; refine Imp.box_to b206 ((wtrD D.banks.length (nxD D lv op) ys (i + 1) (0)).flatMap encI) (by rw [wtr_next (k := k) (by omega) (by omega) (fun j => it_le (nx := (nxD D lv op)) (fun b _ => nx_le) (by omega) j)]) ?_; refine r_region ?_; refine o_q _ rfl rfl rfl (v_add rfl rfl rfl (by omega)) ?_; refine q_mv rfl rfl rfl rfl rfl ?_; refine o_nil (r_then ?_); refine r_next (i + 1) ?_ ?_ ?_
                       ·
                        exact r_here (by repeat (first | exact FSub.nil | refine FSub.cons rfl ?_)) SelMC.sel SubRC.sub
                       ·
                        omega
                       ·
                        omega
                    ·
                     refine r_exit ?_; refine r_then_exit ?_; refine r_then_exit ?_; refine r_in_here ?_; refine r_then (r_seq ?_); refine r_seq ?_; obtain rfl : i = ys.length := by omega
                     refine Imp.box_to b206 ((wtrD D.banks.length (nxD D lv op) ys D.banks.length (0)).flatMap encI) (by rw [hyl2]) ?_; refine Imp.sealB b206 ?_; refine Imp.rowN (b := b206) (wtrD D.banks.length (nxD D lv op) ys D.banks.length (0)) encI_len rfl ?_; obtain ⟨wt, hwt⟩ : ∃ wt, (wtrD D.banks.length (nxD D lv op) ys D.banks.length (0)) = wt := ⟨_, rfl⟩; have hwl : wt.length = D.banks.length := by rw [← hwt, wtr_len]
                     rw [hwt]; refine r_region ?_; refine o_q _ rfl rfl rfl (v_fieldAddr rfl Tryz.underlying30 inf28 rfl rfl rfl rfl) ?_; refine o_q _ rfl rfl rfl (v_ld1 rfl Tryz.underlying28 rfl rfl rfl) ?_; refine o_q _ rfl rfl rfl (v_len rfl rfl Tryz.underlying28 rfl) ?_; refine q_mv rfl rfl rfl rfl rfl ?_; refine o_nil (r_then ?_); refine r_block ?_; refine r_loop (ι := Nat) (fun k => k ≤ D.rights.length) (fun k => [(3, pt b3 0), (4, pt b4 0), (9, pt b9 0), (10, pt b10 0), (23, .slice ol lv.length cl), (27, i64 ((op : Nat) : Int)), (28, .slice (some ⟨b206, 0, none⟩) lv.length lv.length), (233, .slice ro D.rights.length rc), (234, i64 (D.rights.length : Int)), (235, i64 (k : Int))]) (fun k => bx b4 30 (cellsD (withR D rs) bo wo oz none bc wc cz 0) :: bx b3 25 (cellsK B lo mo lc mc) :: bx b9 41 [.slice xa.fo xa.x.f.length xa.fc, .slice xa.to_ xa.x.t.length xa.tc] :: bx b10 30 (cellsD (withR D D.rights) bo wo ro none bc wc rc 0) :: M) (fun k => rowD (some ⟨b206, 0, none⟩) 1 encI wt :: rowD ol 1 encI lv :: rowD oy 1 encI ys :: rowD oz 3 encR rs :: rowD xa.fo 1 encI xa.x.f :: rowD xa.to_ 1 encI xa.x.t :: boxF x86.2 31 [.slice ba bys.length uc] :: ([rowD lo 5 encLe B.leases, rowD mo 2 encMk B.marks, rowD bo 4 encDB D.banks, rowD wo 2 encDW D.ways, rowD ro 3 encR D.rights, rowD so 2 encDW D.seen, rowD ba 1 Foot4.encU bys] ++ Rf)) (fun k => D.rights.length - k) 0 ?_ ?_ ?_
                     ·
                      exact r_here (by repeat (first | exact FSub.nil | refine FSub.cons rfl ?_)) SelMC.sel SubRC.sub
                     ·
                      omega
                     ·
                      rintro k hI4; refine r_seq (r_region ?_); refine o_q _ rfl rfl rfl (v_lss rfl rfl rfl) ?_; refine o_nil (r_then (r_seq ?_)); refine r_condd rfl (fun hc236 => ?_) (fun hc236 => ?_)
                      ·
                       refine r_skip (r_then ?_); refine r_seq (r_block ?_); refine r_seq (r_region ?_); refine o_q _ rfl rfl rfl (v_indexAddrSn rfl Tryz.underlying28 inf46 rfl rfl rfl (by omega) rfl) ?_; refine o_q _ rfl rfl rfl (v_loadEN rfl Tryz.underlying46 rfl inf46 rfl (by omega) rfl rfl rfl) ?_; refine o_alloc rfl inf46 rfl rfl rfl rfl rfl (fun b33 => ?_); refine o_st rfl inf46 rfl rfl rfl rfl rfl rfl rfl rfl ?_; refine o_nil (r_then (r_seq ?_)); refine Imp.box_to b33 [i64 (D.rights.getD k default).of_, i64 (D.rights.getD k default).to_, i64 (D.rights.getD k default).most] rfl ?_; obtain ⟨hrt, hrm⟩ := hgr k (by omega); unfold TwoD at hrt; have hno := right_law hK htx hD hib hiy hrs2 hs.symm (r := (D.rights.getD k default)) (by rw [List.getD_eq_getElem?_getD, List.getElem?_eq_getElem (show k < D.rights.length by omega)]; exact List.getElem_mem _); rw [hop, ← wtr_end (by omega), hwt] at hno; refine r_region_q mixed (by kernel_rfl) ?_; refine q_q _ rfl rfl rfl (v_ldW rfl Tryz.underlying25 rfl inf25 rfl rfl) ?_; refine q_q _ rfl rfl rfl (v_ldW rfl Tryz.underlying41 rfl inf41 rfl rfl) ?_; refine q_q _ rfl rfl rfl (v_fieldAddr rfl Tryz.underlying46 inf3 rfl rfl rfl rfl) ?_; refine q_q _ rfl rfl rfl (v_ld1 rfl Tryz.underlying3 rfl rfl rfl) ?_; refine q_q _ rfl rfl rfl (OpQ.fn (of01_v B lo mo lc mc xa.x xa.fo xa.to_ xa.fc xa.tc hK htx.fl htx.tl (D.rights.getD k default).of_) rfl rfl SubRC.sub) ?_; refine q_q _ rfl rfl rfl (v_ldW rfl Tryz.underlying25 rfl inf25 rfl rfl) ?_; refine q_q _ rfl rfl rfl (v_ldW rfl Tryz.underlying41 rfl inf41 rfl rfl) ?_; refine q_q _ rfl rfl rfl (v_fieldAddr rfl Tryz.underlying46 inf3 rfl rfl rfl rfl) ?_; refine q_q _ rfl rfl rfl (v_ld1 rfl Tryz.underlying3 rfl rfl rfl) ?_; refine q_q _ rfl rfl rfl (OpQ.fn (of01_v B lo mo lc mc xa.x xa.fo xa.to_ xa.fc xa.tc hK htx.fl htx.tl (D.rights.getD k default).to_) rfl rfl SubRC.sub) ?_; refine q_test rfl rfl rfl (v_neq rfl rfl rfl) (fun h249 => ?_) (fun h249 => ?_)
                       all_goals
                        refine q_q _ rfl rfl rfl (v_move rfl rfl) ?_
                        first | refine q_gn rfl rfl rfl rfl ?_ | refine q_g _ rfl rfl rfl rfl (v_ldW rfl Tryz.underlying30 rfl inf30 rfl rfl) ?_
                        first | refine q_gn rfl rfl rfl rfl ?_ | refine q_g _ rfl rfl rfl rfl (v_move rfl rfl) ?_
                        first | refine q_gn rfl rfl rfl rfl ?_ | refine q_g _ rfl rfl rfl rfl (v_move rfl rfl) ?_
                        first | refine q_gn rfl rfl rfl rfl ?_ | refine q_g _ rfl rfl rfl rfl (v_fieldAddr rfl Tryz.underlying46 inf3 rfl rfl rfl rfl) ?_
                        first | refine q_gn rfl rfl rfl rfl ?_ | refine q_g _ rfl rfl rfl rfl (v_cast (v := i64 (((D.rights.getD k default).of_.toNat : Nat) : Int)) (v_ld1 rfl Tryz.underlying3 rfl rfl rfl) (congrArg (Value.int .i64) (show (D.rights.getD k default).of_ = _ by omega))) ?_
                        first | refine q_gn rfl rfl rfl rfl ?_ | refine q_g _ rfl rfl rfl rfl (v_cast (v := i64 ((nxD D lv op (D.rights.getD k default).of_.toNat : Nat) : Int)) (OpQ.fn (next07_v (withR D rs) bo wo oz none bc wc cz 0 hg2 lv ol cl hib.1 op (D.rights.getD k default).of_.toNat (by omega) (by show _ < D.banks.length; omega)) rfl rfl SubRC.sub) (by rw [nx_w])) ?_
                        first | refine q_gn rfl rfl rfl rfl ?_ | refine q_g _ rfl rfl rfl rfl (v_fieldAddr rfl Tryz.underlying46 inf3 rfl rfl rfl rfl) ?_
                        first | refine q_gn rfl rfl rfl rfl ?_ | refine q_g _ rfl rfl rfl rfl (v_ld1 rfl Tryz.underlying3 rfl rfl rfl) ?_
                        first | refine q_gn rfl rfl rfl rfl ?_ | refine q_gtest rfl rfl rfl rfl (v_eql rfl rfl rfl) (fun h259 => ?_) (fun h259 => ?_)
                        all_goals
                         first | refine q_q _ rfl rfl rfl (v_pick_t rfl rfl rfl) ?_ | refine q_q _ rfl rfl rfl (v_pick_f rfl rfl rfl) ?_
                         refine q_q _ rfl rfl rfl (v_move rfl rfl) ?_
                         first | refine q_gn rfl rfl rfl rfl ?_ | refine q_g _ rfl rfl rfl rfl (v_move rfl rfl) ?_
                         first | refine q_gn rfl rfl rfl rfl ?_ | refine q_g _ rfl rfl rfl rfl (v_fieldAddr rfl Tryz.underlying46 inf3 rfl rfl rfl rfl) ?_
                         first | refine q_gn rfl rfl rfl rfl ?_ | refine q_g _ rfl rfl rfl rfl (v_cast (v := i64 (((D.rights.getD k default).of_.toNat : Nat) : Int)) (v_ld1 rfl Tryz.underlying3 rfl rfl rfl) (congrArg (Value.int .i64) (show (D.rights.getD k default).of_ = _ by omega))) ?_
                         first | refine q_gn rfl rfl rfl rfl ?_ | refine q_g _ rfl rfl rfl rfl (v_indexAddrSn (k := (D.rights.getD k default).of_.toNat) rfl Tryz.underlying39 inf3 rfl rfl rfl (by omega) (by omega)) ?_
                         first | refine q_gn rfl rfl rfl rfl ?_ | refine q_g _ rfl rfl rfl rfl (v_cast (v := i64 (wt.getD (D.rights.getD k default).of_.toNat 0)) (v_loadE1 rfl Tryz.underlying3 rfl rfl (by omega) rfl rfl) rfl) ?_
                         first | refine q_gn rfl rfl rfl rfl ?_ | refine q_g _ rfl rfl rfl rfl (v_fieldAddr rfl Tryz.underlying46 inf3 rfl rfl rfl rfl) ?_
                         first | refine q_gn rfl rfl rfl rfl ?_ | refine q_g _ rfl rfl rfl rfl (v_ld1 rfl Tryz.underlying3 rfl rfl rfl) ?_
                         first | refine q_gn rfl rfl rfl rfl ?_ | refine q_g _ rfl rfl rfl rfl (v_false (v_gtr rfl rfl rfl) (by omega)) ?_
                         all_goals
                          first | refine q_q _ rfl rfl rfl (v_pick_t rfl rfl rfl) ?_ | refine q_q _ rfl rfl rfl (v_pick_f rfl rfl rfl) ?_
                          refine q_nil ?_; refine r_then ?_; refine r_cond rfl (fun hc270 => ?_) (fun hc270 => ?_)
                          ·
                           (exfalso; revert hc270; decide)
                          ·
                           refine r_skip ?_; refine r_in_normal ?_; refine r_then ?_; refine r_region ?_; refine o_q _ rfl rfl rfl (v_add rfl rfl rfl (by omega)) ?_; refine q_mv rfl rfl rfl rfl rfl ?_; refine o_nil (r_then ?_); refine r_next (k + 1) ?_ ?_ ?_
                           ·
                            exact r_here (by repeat (first | exact FSub.nil | refine FSub.cons rfl ?_)) SelMC.sel SubRC.sub
                           ·
                            omega
                           ·
                            omega
                      ·
                       refine r_exit ?_; refine r_then_exit ?_; refine r_then_exit ?_; refine r_in_here ?_; refine r_then (r_seq (r_region ?_)); refine o_q _ rfl rfl rfl (OpQ.fn awake07_v rfl rfl SubRC.sub) ?_; refine q_as rfl rfl rfl rfl rfl ?_; refine o_nil (r_then ?_); refine r_ret ?_; exact r_retv2 (Rd.tmp rfl rfl) rfl SelMC.sel SubRC.sub
end Go.Proofs.YtpndeonmmcaikaaGreat.DrW

namespace Go.Proofs.YtpndeonmmcaikaaGreat.FootW
open Go.G Foot4
set_option maxRecDepth 1000000
section
variable {H : Type} {en : TypeId × Value → H} {w : World} {base : Nat} {sp : Nat → Bool} {held : Bool} {fuel : Nat} {cs : List Value} {x : DataW H × List MemPlace}
theorem cells31 : Tryz.prog.cellsOf 43 = 2 := by kernel_rfl
theorem cellsI : Tryz.prog.cellsOf 3 = 1 := by kernel_rfl
theorem open3 (h : DataW.trod en Tryz.prog w base sp held fuel 3 cs = some x) : ∃ n, cs = [i64 n] := by
  obtain ⟨n, h1, _⟩ := open_i Tryz.underlying3 h
  exact ⟨n, h1⟩
theorem list2 {cs : List Value} (h : cs.length = 2) : ∃ a b, cs = [a, b] := by
  match cs, h with
  | [a, b], _ => exact ⟨a, b, rfl⟩
theorem list3 {cs : List Value} (h : cs.length = 3) : ∃ a b c, cs = [a, b, c] := by
  match cs, h with
  | [a, b, c], _ => exact ⟨a, b, c, rfl⟩
theorem open31 (h : DataW.trod en Tryz.prog w base sp held fuel 43 cs = some x) : ∃ s : Span, cs = encS s ∧ True := by
  obtain ⟨a, b, rfl⟩ := list2 ((open_len Tryz.underlying43 h).trans cells31)
  obtain ⟨_, _, h0⟩ := open_field Tryz.underlying43 h 0 rfl cellsI
  obtain ⟨_, _, h1⟩ := open_field Tryz.underlying43 h 1 rfl cellsI
  obtain ⟨n, e0⟩ := open3 h0
  obtain ⟨m, e1⟩ := open3 h1
  have e0' : [a] = [i64 n] := e0
  have e1' : [b] = [i64 m] := e1
  cases e0'; cases e1'
  exact ⟨⟨n, m⟩, rfl, trivial⟩
end
section
variable {H : Type} {en : TypeId × Value → H} {w : World} {base b0 : Nat} {r : Reach} {sp : Nat → Bool} {held : Bool} {v : Value} {d : DataW H} {ps : List MemPlace}
theorem agg_of {t : TypeId} {dd : TypeDesc} (hd : Tryz.prog.underlying t = some dd) (ha : aggD dd = true) (hv : Value.okWide Tryz.prog w r b0 t v) : ∃ cs : List Value, v = .agg cs.toArray := by
  unfold Value.okWide at hv
  rw [hd] at hv
  cases dd <;> simp [aggD] at ha
  all_goals
    obtain ⟨cs, rfl, _⟩ := hv
    exact ⟨cs.toList, by simp⟩
end
theorem own0 : ownKnob Tryz.prog.godebug = none := by kernel_rfl
theorem monoR {W : World} {α : Type} {oa : Option Addr} {sz : Nat} {enc : α → List Value} {xs : List α} {R : List Fact} (h : rowD oa sz enc xs (full W)) (hR : ∀ φ ∈ R, Mono φ ∧ φ (full W)) : ∀ φ ∈ rowD oa sz enc xs :: R, Mono φ ∧ φ (full W) := by
  intro φ hφ
  rcases List.mem_cons.1 hφ with rfl | hφ
  · exact ⟨Mono.row _ _ _ _, h⟩
  · exact hR φ hφ
theorem mono0 {W : World} : ∀ φ ∈ ([] : List Fact), Mono φ ∧ φ (full W) := fun _ h => by cases h
end Go.Proofs.YtpndeonmmcaikaaGreat.FootW

namespace Go.Proofs.YtpndeonmmcaikaaGreat.FootW
open Go.G Foot4
theorem int16 {x : Int} (h : (Lit.int .u16 x).wf = true) : 0 ≤ x ∧ x ≤ 65535 := by
  have m1 : IntKind.u16.min = 0 := rfl
  have m2 : IntKind.u16.max = 65535 := rfl
  simp only [Lit.wf, m1, m2, Bool.and_eq_true, decide_eq_true_eq] at h
  exact h
set_option maxRecDepth 1000000
theorem cells49 : Tryz.prog.cellsOf 97 = 1 := by kernel_rfl
section
variable {H : Type} {en : TypeId × Value → H} {w : World} {base b0 : Nat} {r : Reach} {sp : Nat → Bool} {held : Bool} {v : Value} {d : DataW H} {ps : List MemPlace}
theorem get50 (hv : Value.okWide Tryz.prog w r b0 31 v) (h : DataW.Trod en Tryz.prog w base sp held 31 v d ps) : ∃ (ba : Option Addr) (bc : Nat) (bys : List Int), v = .slice ba bys.length bc ∧ rowD ba 1 encU bys (full w) ∧ U16s bys ∧ bys.length ≤ 9223372036854775807 := by
  obtain ⟨fuel, h⟩ := h
  obtain ⟨lo, lc, l, e, h1, h2, h3⟩ := open_rowD (enc := encU) (fun x : Int => 0 ≤ x ∧ x ≤ 65535) Tryz.underlying31 cells49 (by omega) (fun _ _ _ h => by
    obtain ⟨n, h1, h2⟩ := open_i Tryz.underlying97 h
    exact ⟨n, h1, int16 h2⟩) h
  refine ⟨lo, lc, l, ?_, h1, h2, h3⟩
  cases v <;> simp_all [Value.cells]
  unfold Value.okWide at hv
  rw [Tryz.underlying31] at hv
  simp [Cell.okWide, Cell.ok, Tryz.underlying31] at hv
end
end Go.Proofs.YtpndeonmmcaikaaGreat.FootW

set_option linter.unusedVariables false
namespace Burst8
open Go Go.G
abbrev Tab := List Int
def tat (T : Tab) (i k : Nat) : Int := T.getD (11 * i + k) 0
def tset (T : Tab) (i k : Nat) (x : Int) : Tab := T.set (11 * i + k) x
def fwC (T : Tab) (b i : Nat) : Nat → Tab
  | 0 => T
  | k + 1 => tset (fwC T b i k) i k (min (tat (fwC T b i k) i k) (tat (fwC T b i k) i b + tat (fwC T b i k) b k))
def fwR (T : Tab) (b : Nat) : Nat → Tab
  | 0 => T
  | i + 1 => fwC (fwR T b i) b i 11
def fw (T : Tab) : Nat → Tab
  | 0 => T
  | b + 1 => fwR (fw T b) b 11
def TLe (T U : Tab) : Prop := ∀ i, i < 11 → ∀ k, k < 11 → tat T i k ≤ tat U i k
theorem TLe.refl (T : Tab) : TLe T T := fun _ _ _ _ => Int.le_refl _
theorem TLe.trans {T U V : Tab} (h : TLe T U) (k : TLe U V) : TLe T V := fun i hi j hj => Int.le_trans (h i hi j hj) (k i hi j hj)
section
variable {T : Tab} {b : Nat}
end
section
variable {T : Tab} {b : Nat}
end
def Can (T : Tab) : Prop := ∀ i, i < 11 → 0 ≤ tat (fw T 11) i i
instance (T : Tab) : Decidable (Can T) := by unfold Can; infer_instance
end Burst8

set_option linter.unusedVariables false
namespace Burst8
open Go Go.G
structure Span where
  lo : Int
  hi : Int
  deriving DecidableEq, Inhabited
structure Bank where
  blo : Int
  bhi : Int
  clo : Int
  chi : Int
  deriving DecidableEq, Inhabited
structure Sign where
  kind : Int
  bank : Int
  day : Int
  deriving DecidableEq, Inhabited
structure Bog where
  banks : List Bank
  wlo : Int
  whi : Int
  rain : List Span
  drain : Int
  signs : List Sign
  deriving DecidableEq, Inhabited
abbrev i64 (n : Int) : Value := .int .i64 n
abbrev u64 (n : Nat) : Value := .int .u64 n
def SignOk (B : Bog) (s : Sign) : Prop := (0 ≤ s.day ∧ s.day ≤ (B.rain.length : Int)) ∧ (s.kind = 2 ∨ ((0 ≤ s.kind ∧ s.kind ≤ 1) ∧ (0 ≤ s.bank ∧ s.bank ≤ (B.banks.length : Int) - 1)))
instance (B : Bog) (s : Sign) : Decidable (SignOk B s) := by unfold SignOk; infer_instance
def BankOk (b : Bank) : Prop := (0 ≤ b.blo ∧ b.blo ≤ b.bhi ∧ b.bhi ≤ 60) ∧ (0 ≤ b.clo ∧ b.clo ≤ b.chi ∧ b.chi ≤ 20)
instance (b : Bank) : Decidable (BankOk b) := by unfold BankOk; infer_instance
def RainOk (s : Span) : Prop := 0 ≤ s.lo ∧ s.lo ≤ s.hi ∧ s.hi ≤ 20
instance (s : Span) : Decidable (RainOk s) := by unfold RainOk; infer_instance
structure GoodB (B : Bog) : Prop where
  nb : 1 ≤ (B.banks.length : Int) ∧ (B.banks.length : Int) ≤ 4
  w : -40 ≤ B.wlo ∧ B.wlo ≤ B.whi ∧ B.whi ≤ 40
  nr : 1 ≤ (B.rain.length : Int) ∧ (B.rain.length : Int) ≤ 5
  dr : 0 ≤ B.drain ∧ B.drain ≤ 20
  ns : (B.signs.length : Int) ≤ 5
  banks : ∀ k, k < B.banks.length → BankOk (B.banks.getD k default)
  rain : ∀ k, k < B.rain.length → RainOk (B.rain.getD k default)
  signs : ∀ k, k < B.signs.length → SignOk B (B.signs.getD k default)
theorem goodB_iff (B : Bog) : GoodB B ↔ (1 ≤ (B.banks.length : Int) ∧ (B.banks.length : Int) ≤ 4) ∧ (-40 ≤ B.wlo ∧ B.wlo ≤ B.whi ∧ B.whi ≤ 40) ∧ (1 ≤ (B.rain.length : Int) ∧ (B.rain.length : Int) ≤ 5) ∧ (0 ≤ B.drain ∧ B.drain ≤ 20) ∧ (B.signs.length : Int) ≤ 5 ∧ (∀ k, k < B.banks.length → BankOk (B.banks.getD k default)) ∧ (∀ k, k < B.rain.length → RainOk (B.rain.getD k default)) ∧ (∀ k, k < B.signs.length → SignOk B (B.signs.getD k default)) :=
  ⟨fun h => ⟨h.nb, h.w, h.nr, h.dr, h.ns, h.banks, h.rain, h.signs⟩, fun ⟨a, b, c, d, e, f, g, h⟩ => ⟨a, b, c, d, e, f, g, h⟩⟩
instance (B : Bog) : Decidable (GoodB B) := decidable_of_iff _ (goodB_iff B).symm
structure Bnd where
  a : Nat
  b : Nat
  lo : Int
  hi : Int
  deriving DecidableEq, Inhabited
section
variable {T : Tab} {b : Nat} {B : Int}
end
end Burst8

namespace Go.Proofs.YtpndeonmmcaikaaGreat.BurstW
open Go.G Burst8
set_option maxRecDepth 1000000
section
variable {H : Type} {en : TypeId × Value → H} {w : World} {base : Nat} {sp : Nat → Bool} {held : Bool} {fuel : Nat} {cs : List Value} {x : DataW H × List MemPlace}
theorem list2 {cs : List Value} (h : cs.length = 2) : ∃ a b, cs = [a, b] := by
  match cs, h with
  | [a, b], _ => exact ⟨a, b, rfl⟩
theorem list4 {cs : List Value} (h : cs.length = 4) : ∃ a b c d, cs = [a, b, c, d] := by
  match cs, h with
  | [a, b, c, d], _ => exact ⟨a, b, c, d, rfl⟩
end
section
variable {H : Type} {en : TypeId × Value → H} {w : World} {base b0 : Nat} {r : Reach} {sp : Nat → Bool} {held : Bool} {v : Value} {d : DataW H} {ps : List MemPlace}
end
end Go.Proofs.YtpndeonmmcaikaaGreat.BurstW

namespace Go.Proofs.YtpndeonmmcaikaaGreat.DrW
open Go.G Foot4 Drain7
set_option maxRecDepth 1000000
attribute [local irreducible] G.ParO G.Fin
theorem list5 {cs : List Value} (h : cs.length = 5) : ∃ a b c d e, cs = [a, b, c, d, e] := by
  match cs, h with
  | [a, b, c, d, e], _ => exact ⟨a, b, c, d, e, rfl⟩
section
variable {H : Type} {en : TypeId × Value → H} {w : World} {base : Nat} {sp : Nat → Bool} {held : Bool} {fuel : Nat} {cs : List Value} {x : DataW H × List MemPlace}
theorem cL : Tryz.prog.cellsOf 22 = 1 := by kernel_rfl
theorem cM : Tryz.prog.cellsOf 23 = 1 := by kernel_rfl
theorem cB : Tryz.prog.cellsOf 26 = 1 := by kernel_rfl
theorem cW : Tryz.prog.cellsOf 27 = 1 := by kernel_rfl
theorem cR : Tryz.prog.cellsOf 28 = 1 := by kernel_rfl
theorem cS : Tryz.prog.cellsOf 43 = 2 := by kernel_rfl
theorem cI : Tryz.prog.cellsOf 3 = 1 := by kernel_rfl
theorem eL : Tryz.prog.cellsOf 84 = 5 := by kernel_rfl
theorem eM : Tryz.prog.cellsOf 88 = 2 := by kernel_rfl
theorem eB : Tryz.prog.cellsOf 53 = 4 := by kernel_rfl
theorem eW : Tryz.prog.cellsOf 92 = 2 := by kernel_rfl
theorem eR : Tryz.prog.cellsOf 46 = 3 := by kernel_rfl
theorem eK : Tryz.prog.cellsOf 25 = 4 := by kernel_rfl
theorem eD : Tryz.prog.cellsOf 30 = 4 := by kernel_rfl
theorem openLe (h : DataW.trod en Tryz.prog w base sp held fuel 84 cs = some x) : ∃ s : Drain7.Lease, cs = encLe s ∧ True := by
  obtain ⟨a, b, c, d, e, rfl⟩ := list5 ((open_len Tryz.underlying84 h).trans eL)
  obtain ⟨_, _, h0⟩ := open_field Tryz.underlying84 h 0 rfl cI
  obtain ⟨_, _, h1⟩ := open_field Tryz.underlying84 h 1 rfl cS
  obtain ⟨_, _, h2⟩ := open_field Tryz.underlying84 h 2 rfl cS
  obtain ⟨n, e0⟩ := FootW.open3 h0
  obtain ⟨s, e1, _⟩ := FootW.open31 h1
  obtain ⟨t, e2, _⟩ := FootW.open31 h2
  have e0' : [a] = [i64 n] := e0
  have e1' : [b, c] = [i64 s.lo, i64 s.hi] := e1
  have e2' : [d, e] = [i64 t.lo, i64 t.hi] := e2
  cases e0'; cases e1'; cases e2'
  exact ⟨⟨n, s.lo, s.hi, t.lo, t.hi⟩, rfl, trivial⟩
theorem openMk (h : DataW.trod en Tryz.prog w base sp held fuel 88 cs = some x) : ∃ s : Drain7.Mark, cs = encMk s ∧ True := by
  obtain ⟨a, b, rfl⟩ := BurstW.list2 ((open_len Tryz.underlying88 h).trans eM)
  obtain ⟨_, _, h0⟩ := open_field Tryz.underlying88 h 0 rfl cI
  obtain ⟨_, _, h1⟩ := open_field Tryz.underlying88 h 1 rfl cI
  obtain ⟨n, e0⟩ := FootW.open3 h0
  obtain ⟨m, e1⟩ := FootW.open3 h1
  have e0' : [a] = [i64 n] := e0
  have e1' : [b] = [i64 m] := e1
  cases e0'; cases e1'
  exact ⟨⟨n, m⟩, rfl, trivial⟩
theorem openDB (h : DataW.trod en Tryz.prog w base sp held fuel 53 cs = some x) : ∃ s : DBank, cs = encDB s ∧ True := by
  obtain ⟨a, b, c, d, rfl⟩ := BurstW.list4 ((open_len Tryz.underlying53 h).trans eB)
  obtain ⟨_, _, h0⟩ := open_field Tryz.underlying53 h 0 rfl cS
  obtain ⟨_, _, h1⟩ := open_field Tryz.underlying53 h 1 rfl cS
  obtain ⟨s, e1, _⟩ := FootW.open31 h0
  obtain ⟨t, e2, _⟩ := FootW.open31 h1
  have e1' : [a, b] = [i64 s.lo, i64 s.hi] := e1
  have e2' : [c, d] = [i64 t.lo, i64 t.hi] := e2
  cases e1'; cases e2'
  exact ⟨⟨s.lo, s.hi, t.lo, t.hi⟩, rfl, trivial⟩
theorem openWy (h : DataW.trod en Tryz.prog w base sp held fuel 92 cs = some x) : ∃ s : DWay, cs = encDW s ∧ True := by
  obtain ⟨a, b, rfl⟩ := BurstW.list2 ((open_len Tryz.underlying92 h).trans eW)
  obtain ⟨_, _, h0⟩ := open_field Tryz.underlying92 h 0 rfl cI
  obtain ⟨_, _, h1⟩ := open_field Tryz.underlying92 h 1 rfl cI
  obtain ⟨n, e0⟩ := FootW.open3 h0
  obtain ⟨m, e1⟩ := FootW.open3 h1
  have e0' : [a] = [i64 n] := e0
  have e1' : [b] = [i64 m] := e1
  cases e0'; cases e1'
  exact ⟨⟨n, m⟩, rfl, trivial⟩
theorem openRt (h : DataW.trod en Tryz.prog w base sp held fuel 46 cs = some x) : ∃ s : Drain7.Right, cs = encR s ∧ True := by
  obtain ⟨a, b, c, rfl⟩ := FootW.list3 ((open_len Tryz.underlying46 h).trans eR)
  obtain ⟨_, _, h0⟩ := open_field Tryz.underlying46 h 0 rfl cI
  obtain ⟨_, _, h1⟩ := open_field Tryz.underlying46 h 1 rfl cI
  obtain ⟨_, _, h2⟩ := open_field Tryz.underlying46 h 2 rfl cI
  obtain ⟨n, e0⟩ := FootW.open3 h0
  obtain ⟨m, e1⟩ := FootW.open3 h1
  obtain ⟨q, e2⟩ := FootW.open3 h2
  have e0' : [a] = [i64 n] := e0
  have e1' : [b] = [i64 m] := e1
  have e2' : [c] = [i64 q] := e2
  cases e0'; cases e1'; cases e2'
  exact ⟨⟨n, m, q⟩, rfl, trivial⟩
theorem openK (h : DataW.trod en Tryz.prog w base sp held fuel 25 cs = some x) : ∃ (B : Bk) (lo mo : Option Addr) (lc mc : Nat), cs = cellsK B lo mo lc mc ∧ rowD lo 5 encLe B.leases (full w) ∧ rowD mo 2 encMk B.marks (full w) := by
  obtain ⟨a, b, c, d, rfl⟩ := BurstW.list4 ((open_len Tryz.underlying25 h).trans eK)
  obtain ⟨_, _, h0⟩ := open_field Tryz.underlying25 h 0 rfl cI
  obtain ⟨_, _, h1⟩ := open_field Tryz.underlying25 h 1 rfl cI
  obtain ⟨_, _, h2⟩ := open_field Tryz.underlying25 h 2 rfl cL
  obtain ⟨_, _, h3⟩ := open_field Tryz.underlying25 h 3 rfl cM
  obtain ⟨n, e0⟩ := FootW.open3 h0
  obtain ⟨m, e1⟩ := FootW.open3 h1
  obtain ⟨lo, lc, l, e2, r2, _, _⟩ := open_rowD (fun _ : Drain7.Lease => True) Tryz.underlying22 eL (by omega) (fun _ _ _ h => openLe h) h2
  obtain ⟨mo, mc, ms, e3, r3, _, _⟩ := open_rowD (fun _ : Drain7.Mark => True) Tryz.underlying23 eM (by omega) (fun _ _ _ h => openMk h) h3
  have e0' : [a] = [i64 n] := e0
  have e1' : [b] = [i64 m] := e1
  have e2' : [c] = [.slice lo l.length lc] := e2
  have e3' : [d] = [.slice mo ms.length mc] := e3
  cases e0'; cases e1'; cases e2'; cases e3'
  exact ⟨⟨n, m, l, ms⟩, lo, mo, lc, mc, rfl, r2, r3⟩
theorem openD (h : DataW.trod en Tryz.prog w base sp held fuel 30 cs = some x) : ∃ (D : Dr) (bo wo ro so : Option Addr) (bc wc rc sc : Nat), cs = cellsD D bo wo ro so bc wc rc sc ∧ rowD bo 4 encDB D.banks (full w) ∧ rowD wo 2 encDW D.ways (full w) ∧ rowD ro 3 encR D.rights (full w) ∧ rowD so 2 encDW D.seen (full w) := by
  obtain ⟨a, b, c, d, rfl⟩ := BurstW.list4 ((open_len Tryz.underlying30 h).trans eD)
  obtain ⟨_, _, h0⟩ := open_field Tryz.underlying30 h 0 rfl cB
  obtain ⟨_, _, h1⟩ := open_field Tryz.underlying30 h 1 rfl cW
  obtain ⟨_, _, h2⟩ := open_field Tryz.underlying30 h 2 rfl cR
  obtain ⟨_, _, h3⟩ := open_field Tryz.underlying30 h 3 rfl cW
  obtain ⟨bo, bc, l0, e0, r0, _, _⟩ := open_rowD (fun _ : DBank => True) Tryz.underlying26 eB (by omega) (fun _ _ _ h => openDB h) h0
  obtain ⟨wo, wc, l1, e1, r1, _, _⟩ := open_rowD (fun _ : DWay => True) Tryz.underlying27 eW (by omega) (fun _ _ _ h => openWy h) h1
  obtain ⟨ro, rc, l2, e2, r2, _, _⟩ := open_rowD (fun _ : Drain7.Right => True) Tryz.underlying28 eR (by omega) (fun _ _ _ h => openRt h) h2
  obtain ⟨so, sc, l3, e3, r3, _, _⟩ := open_rowD (fun _ : DWay => True) Tryz.underlying27 eW (by omega) (fun _ _ _ h => openWy h) h3
  have e0' : [a] = [.slice bo l0.length bc] := e0
  have e1' : [b] = [.slice wo l1.length wc] := e1
  have e2' : [c] = [.slice ro l2.length rc] := e2
  have e3' : [d] = [.slice so l3.length sc] := e3
  cases e0'; cases e1'; cases e2'; cases e3'
  exact ⟨⟨l0, l1, l2, l3⟩, bo, wo, ro, so, bc, wc, rc, sc, rfl, r0, r1, r2, r3⟩
end
section
variable {H : Type} {en : TypeId × Value → H} {w : World} {base b0 : Nat} {r : Reach} {sp : Nat → Bool} {held : Bool} {v : Value} {d : DataW H} {ps : List MemPlace}
theorem getK (hv : Value.okWide Tryz.prog w r b0 25 v) (h : DataW.Trod en Tryz.prog w base sp held 25 v d ps) : ∃ (B : Bk) (lo mo : Option Addr) (lc mc : Nat), v = valK B lo mo lc mc ∧ rowD lo 5 encLe B.leases (full w) ∧ rowD mo 2 encMk B.marks (full w) := by
  obtain ⟨cs, rfl⟩ := FootW.agg_of Tryz.underlying25 rfl hv
  obtain ⟨fuel, h⟩ := h
  obtain ⟨B, lo, mo, lc, mc, e, h1⟩ := openK (cs := cs) h
  subst e
  exact ⟨B, lo, mo, lc, mc, rfl, h1⟩
theorem getD_ (hv : Value.okWide Tryz.prog w r b0 30 v) (h : DataW.Trod en Tryz.prog w base sp held 30 v d ps) : ∃ (D : Dr) (bo wo ro so : Option Addr) (bc wc rc sc : Nat), v = valD D bo wo ro so bc wc rc sc ∧ rowD bo 4 encDB D.banks (full w) ∧ rowD wo 2 encDW D.ways (full w) ∧ rowD ro 3 encR D.rights (full w) ∧ rowD so 2 encDW D.seen (full w) := by
  obtain ⟨cs, rfl⟩ := FootW.agg_of Tryz.underlying30 rfl hv
  obtain ⟨fuel, h⟩ := h
  obtain ⟨D, bo, wo, ro, so, bc, wc, rc, sc, e, h1⟩ := openD (cs := cs) h
  subst e
  exact ⟨D, bo, wo, ro, so, bc, wc, rc, sc, rfl, h1⟩
end
end Go.Proofs.YtpndeonmmcaikaaGreat.DrW
