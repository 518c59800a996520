/- Proved: BurstMore answers true for every input and leaves its arguments as they were. No condition. -/
import Derived.Test.YtoggggnlponfhaaW5
import Derived.Test.YtoggggnlponfhaaW4
namespace Go.Proofs.Ytoggggnlponfhaa
open Go.G Burst8 Go.ChangeShapes Go.WideShapes Go.ChangeAt Go.RowKit
set_option maxRecDepth 1000000
theorem mores_lifted (os : Os) (started : os.Started) (H : Type) (enc : TypeId × Value → H) :
    ReturnsInHanded {} Try.checked os 11 .any (Rows.burstMoreSpec.pre6 enc Try.prog Try.f11 Rows.burstMoreRow.domain false) (Rows.burstMoreSpec.post enc Try.prog Try.f11 false true false false) := by
  refine returnsInHanded_of_change (C := Try.checked) own0 started (by kernel_rfl) Try.func11
    (ChangeSpec.witness6 (enc := enc) (C := Try.checked) false ⟨#[], #[.agg #[.slice none 0 0, i64 0, i64 0, .slice none 0 0, i64 0, .slice none 0 0], .agg #[i64 0, i64 0, i64 0], .int .u8 0, .int .u8 0], []⟩ 8 (by kernel_rfl) (by kernel_rfl) (by kernel_rfl) (by kernel_rfl)) ?_
  intro W base args ds gs before hval0 hW _ _
  have hval : ∀ (j : Nat) t v, Try.f11.params[j]? = some t → args[j]? = some v → Value.okWide Try.prog W .any base t v := hval0
  obtain ⟨p, q, hA0, hV, hpq, hfz, hnd⟩ := id hW
  have hA : DataW.TrodAll enc Try.prog W 0 (fun _ => true) true Try.f11.params.toList args.toList ds p := hA0
  rw [Try.params11] at hA hval
  obtain ⟨v0, v1, v2, v3, d0, d1, d2, d3, p0, p1, p2, p3, rfl, rfl, rfl, h0, h1, h2, h3⟩ := trodAll_four hA
  obtain ⟨B, bo, ro, so, bc, rc, sc, rfl, r1, r2, r3⟩ := get28 (hval 0 28 v0 rfl rfl) h0
  obtain ⟨s0, rfl⟩ := get55 (hval 1 55 v1 rfl rfl) h1
  obtain ⟨x2, rfl, _, _, y2⟩ := open_int Try.underlying5 (hval 2 5 v2 rfl rfl) h2
  obtain ⟨w0, rfl, b2⟩ := nat8 y2
  obtain ⟨x3, rfl, _, _, y3⟩ := open_int Try.underlying5 (hval 3 5 v3 rfl rfl) h3
  obtain ⟨w1, rfl, b3⟩ := nat8 y3
  refine ((mores_v B bo ro so bc rc sc s0 w0 w1 b2 b3).law W (monoB r1 r2 r3)).mono fun e W' ⟨he, hb⟩ => ?_
  subst he
  exact ⟨_, rfl, post_of_below hW rfl laid0 (by kernel_rfl) rfl Try.underlying4 rfl hb⟩
theorem mores_holds : Rows.BurstMoreSaid :=
  OpenClaim.holds_of_wide 11 Try.f11 rfl rfl rfl rfl rfl rfl rfl ⟨rfl, rfl, rfl, rfl, rfl⟩ rfl rfl rfl rfl rfl (by kernel_rfl) Try.func11 (by kernel_rfl)
    (of_decide_eq_true (by kernel_rfl)) (by unfold Func.isWrapper; first | (rw [if_pos (by decide +kernel)]; kernel_rfl) | (rw [if_neg (by decide +kernel)]; exact ⟨rfl, rfl⟩))
    (fun os started H enc _ => mores_lifted os started H enc)
end Go.Proofs.Ytoggggnlponfhaa
#print axioms Go.Proofs.Ytoggggnlponfhaa.mores_holds
