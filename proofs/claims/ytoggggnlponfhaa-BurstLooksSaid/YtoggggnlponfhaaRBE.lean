/- Proved: BurstLooks answers true for every input and leaves its arguments as they were. No condition. -/
import Derived.Test.YtoggggnlponfhaaE5
import Derived.Test.YtoggggnlponfhaaE4
namespace Go.Proofs.Ytoggggnlponfhaa
open Go.G Burst8 Go.ChangeShapes Go.WideShapes Go.ChangeAt Go.RowKit
set_option maxRecDepth 1000000
theorem looks_lifted (os : Os) (started : os.Started) (H : Type) (enc : TypeId × Value → H) :
    ReturnsInHanded {} Try.checked os 4 .any (Rows.burstLooksSpec.pre6 enc Try.prog Try.f4 Rows.burstLooksRow.domain false) (Rows.burstLooksSpec.post enc Try.prog Try.f4 false true false false) := by
  refine returnsInHanded_of_change (C := Try.checked) own0 started (by kernel_rfl) Try.func4
    (ChangeSpec.witness6 (enc := enc) (C := Try.checked) false ⟨#[], #[.agg #[.slice none 0 0, i64 0, i64 0, .slice none 0 0, i64 0, .slice none 0 0], i64 0], []⟩ 8 (by kernel_rfl) (by kernel_rfl) (by kernel_rfl) (by kernel_rfl)) ?_
  intro W base args ds gs before hval0 hW _ _
  have hval : ∀ (j : Nat) t v, Try.f4.params[j]? = some t → args[j]? = some v → Value.okWide Try.prog W .any base t v := hval0
  obtain ⟨p, q, hA0, hV, hpq, hfz, hnd⟩ := id hW
  have hA : DataW.TrodAll enc Try.prog W 0 (fun _ => true) true Try.f4.params.toList args.toList ds p := hA0
  rw [Try.params4] at hA hval
  obtain ⟨v0, v1, d0, d1, p0, p1, rfl, rfl, rfl, h0, h1⟩ := trodAll_two hA
  obtain ⟨B, bo, ro, so, bc, rc, sc, rfl, r1, r2, r3⟩ := get28 (hval 0 28 v0 rfl rfl) h0
  obtain ⟨n1, rfl, _, _, y1⟩ := open_int Try.underlying3 (hval 1 3 v1 rfl rfl) h1
  refine ((looks_v B bo ro so bc rc sc n1).law W (monoB r1 r2 r3)).mono fun e W' ⟨he, hb⟩ => ?_
  subst he
  exact ⟨_, rfl, post_of_below hW rfl laid0 (by kernel_rfl) rfl Try.underlying4 rfl hb⟩
theorem looks_holds : Rows.BurstLooksSaid :=
  OpenClaim.holds_of_wide 4 Try.f4 rfl rfl rfl rfl rfl rfl rfl ⟨rfl, rfl, rfl, rfl, rfl⟩ rfl rfl rfl rfl rfl (by kernel_rfl) Try.func4 (by kernel_rfl)
    (of_decide_eq_true (by kernel_rfl)) (by unfold Func.isWrapper; first | (rw [if_pos (by decide +kernel)]; kernel_rfl) | (rw [if_neg (by decide +kernel)]; exact ⟨rfl, rfl⟩))
    (fun os started H enc _ => looks_lifted os started H enc)
end Go.Proofs.Ytoggggnlponfhaa
#print axioms Go.Proofs.Ytoggggnlponfhaa.looks_holds
