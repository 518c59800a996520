/- Proved: DebtMore answers true for every input and leaves its arguments as they were; no condition beyond the listed variable, which is tied to the text of the program. -/
import Derived.Test.YtpfgiednfjfdmaaDoorB5
import Derived.Test.YtpfgiednfjfdmaaDoorB4
namespace Go.Proofs.YtpfgiednfjfdmaaDoor
open Go.G Debt10 Go.ChangeShapes Go.WideShapes Go.ChangeAt Go.RowKit
set_option maxRecDepth 1000000
theorem mores_lifted (os : Os) (started : os.Started) (H : Type) (enc : TypeId × Value → H) :
    ReturnsInHanded {} Tryd.checked os 11 .any (fun w args => (Rows.debtMoreSpec.pre enc Tryd.prog Tryd.f11 Rows.debtMoreRow.domain false w args ∧ laidMetH Tryd.prog laidL w) ∧ sizedMet enc Tryd.prog Tryd.f11 (OpenSpec.ofChange Rows.debtMoreSpec) false w args) (Rows.debtMoreSpec.post enc Tryd.prog Tryd.f11 false true false false) := by
  refine returnsInHanded_of_change_and (C := Tryd.checked) (X := fun w _ => laidMetH Tryd.prog laidL w) (fun _ _ _ hh h => h.of_heap hh) own0 started (by kernel_rfl) Tryd.func11
    (ChangeSpec.witness_shaped (enc := enc) (C := Tryd.checked) (os := os) (X := fun w _ => laidMetH Tryd.prog laidL w) false (World.laidAll Tryd.prog os laidL) #[.agg #[.int .i64 0, .slice none 0 0, .slice none 0 0], .agg #[.int .i64 0, .int .i64 0, .int .i64 0, .int .i64 0], .int .u8 0, .int .u8 0] 8 (World.laidAll_os _ _ _)
      (World.shaped_of_ZipB (by kernel_rfl) (by kernel_rfl)) (by kernel_rfl) (by kernel_rfl) (by kernel_rfl)
      (by rw [MakeChecks.laidMetH_plain _ _ _ (by kernel_rfl)]; exact laidMet_laidAll _ (by kernel_rfl) (by kernel_rfl))) ?_
  intro W base args ds gs before hval0 hW _ _ hL _
  have hval : ∀ (j : Nat) t v, Tryd.f11.params[j]? = some t → args[j]? = some v → Value.okWide Tryd.prog W .any base t v := hval0
  have r9 := ends_row hL
  obtain ⟨p, q, hA0, hV, hpq, hfz, hnd⟩ := id hW
  have hA : DataW.TrodAll enc Tryd.prog W 0 (fun _ => true) true Tryd.f11.params.toList args.toList ds p := hA0
  rw [Tryd.params11] at hA hval
  obtain ⟨v0, v1, v2, v3, d0, d1, d2, d3, p0, p1, p2, p3, rfl, rfl, rfl, h0, h1, h2, h3⟩ := trodAll_four hA
  obtain ⟨D, uo, po, uc, pc, rfl, r1, r2⟩ := get25 (hval 0 25 v0 rfl rfl) h0
  obtain ⟨p0, rfl⟩ := get54 (hval 1 54 v1 rfl rfl) h1
  obtain ⟨x2, rfl, _, _, y2⟩ := open_int Tryd.underlying5 (hval 2 5 v2 rfl rfl) h2
  obtain ⟨w0, rfl, b2⟩ := nat8 y2
  obtain ⟨x3, rfl, _, _, y3⟩ := open_int Tryd.underlying5 (hval 3 5 v3 rfl rfl) h3
  obtain ⟨w1, rfl, b3⟩ := nat8 y3
  refine ((mores_v D uo po uc pc p0 w0 b2 w1 b3).law W (monoR r1 (monoR r2 (monoR r9 mono0)))).mono fun e W' ⟨he, hb⟩ => ?_
  subst he
  exact ⟨_, rfl, post_of_below hW rfl laid0 (by kernel_rfl) rfl Tryd.underlying4 rfl hb⟩
theorem mores_holds : Rows.DebtMoreSaid :=
  OpenClaim.holds_of_wide 11 Tryd.f11 rfl rfl rfl rfl rfl rfl rfl ⟨rfl, rfl, rfl, rfl, rfl⟩ rfl rfl rfl rfl rfl (by kernel_rfl) Tryd.func11 (by kernel_rfl)
    (of_decide_eq_true (by kernel_rfl)) (by unfold Func.isWrapper; first | (rw [if_pos (by decide +kernel)]; kernel_rfl) | (rw [if_neg (by decide +kernel)]; exact ⟨rfl, rfl⟩))
    (fun os started H enc _ => mores_lifted os started H enc)
theorem mores_card : Rows.DebtMoreCardSaid :=
  Claim7.holds_tied_plain_at .later [] [.wider] true (true, "401e95c7dea4cfabf94b6ff5d8efe43e6a09c9e8561d90c60e3d7a9da4f4220c") true mores_holds (fun _ h => by cases h) (by kernel_rfl) (fun _ h => by cases h) debtMore_row_tie rfl ⟨rfl, rfl⟩ (by kernel_rfl) rfl
    (fun f fn hf hfn => by
      obtain rfl : f = 11 := Option.some.inj ((show Tryd.prog.funcNamed "bogworks/bogworkslaw10.DebtMore" = some 11 by kernel_rfl).symm.trans hf) |>.symm
      obtain rfl : fn = Tryd.f11 := (Option.some.inj (Tryd.func11.symm.trans hfn)).symm
      exact ⟨by kernel_rfl, fun j t ht => by
        rw [Tryd.params11] at ht
        have hm : t ∈ [25, 54, 5, 5] := by simpa using Array.mem_of_getElem? ht
        have hall : ([25, 54, 5, 5].all fun u => !Tryd.prog.wantsStandIn u) = true := by kernel_rfl
        exact (show Tryd.prog.wantsStandIn t = false by simpa using List.all_eq_true.1 hall t hm)⟩)
    (by kernel_rfl)
end Go.Proofs.YtpfgiednfjfdmaaDoor
#print axioms Go.Proofs.YtpfgiednfjfdmaaDoor.mores_card
