/- Proved: BurstEnds answers true for every input and leaves its arguments as they were. No condition. -/
import Derived.Test.YtoggggnlponfhaaV5
import Derived.Test.YtoggggnlponfhaaV4
namespace Go.Proofs.Ytoggggnlponfhaa
open Go.G Burst8 Go.ChangeShapes Go.WideShapes Go.ChangeAt Go.RowKit
set_option maxRecDepth 1000000
theorem endss_lifted (os : Os) (started : os.Started) (H : Type) (enc : TypeId × Value → H) :
    ReturnsInHanded {} Try.checked os 6 .any (Rows.burstEndsSpec.pre6 enc Try.prog Try.f6 Rows.burstEndsRow.domain false) (Rows.burstEndsSpec.post enc Try.prog Try.f6 false true false false) := by
  refine returnsInHanded_of_change (C := Try.checked) own0 started (by kernel_rfl) Try.func6
    (ChangeSpec.witness6 (enc := enc) (C := Try.checked) false ⟨#[], #[.agg #[.slice none 0 0, i64 0, i64 0, .slice none 0 0, i64 0, .slice none 0 0], .int .u8 0], []⟩ 8 (by kernel_rfl) (by kernel_rfl) (by kernel_rfl) (by kernel_rfl)) ?_
  intro W base args ds gs before hval0 hW _ _
  have hval : ∀ (j : Nat) t v, Try.f6.params[j]? = some t → args[j]? = some v → Value.okWide Try.prog W .any base t v := hval0
  obtain ⟨p, q, hA0, hV, hpq, hfz, hnd⟩ := id hW
  have hA : DataW.TrodAll enc Try.prog W 0 (fun _ => true) true Try.f6.params.toList args.toList ds p := hA0
  rw [Try.params6] at hA hval
  obtain ⟨v0, v1, d0, d1, p0, p1, rfl, rfl, rfl, h0, h1⟩ := trodAll_two hA
  obtain ⟨B, bo, ro, so, bc, rc, sc, rfl, r1, r2, r3⟩ := get28 (hval 0 28 v0 rfl rfl) h0
  obtain ⟨x1, rfl, _, _, y1⟩ := open_int Try.underlying5 (hval 1 5 v1 rfl rfl) h1
  obtain ⟨w0, rfl, b1⟩ := nat8 y1
  refine ((endss_v B bo ro so bc rc sc w0 b1).law W (monoB r1 r2 r3)).mono fun e W' ⟨he, hb⟩ => ?_
  subst he
  exact ⟨_, rfl, post_of_below hW rfl laid0 (by kernel_rfl) rfl Try.underlying4 rfl hb⟩
theorem endss_holds : Rows.BurstEndsSaid :=
  OpenClaim.holds_of_wide 6 Try.f6 rfl rfl rfl rfl rfl rfl rfl ⟨rfl, rfl, rfl, rfl, rfl⟩ rfl rfl rfl rfl rfl (by kernel_rfl) Try.func6 (by kernel_rfl)
    (of_decide_eq_true (by kernel_rfl)) (by unfold Func.isWrapper; first | (rw [if_pos (by decide +kernel)]; kernel_rfl) | (rw [if_neg (by decide +kernel)]; exact ⟨rfl, rfl⟩))
    (fun os started H enc _ => endss_lifted os started H enc)
end Go.Proofs.Ytoggggnlponfhaa
#print axioms Go.Proofs.Ytoggggnlponfhaa.endss_holds
