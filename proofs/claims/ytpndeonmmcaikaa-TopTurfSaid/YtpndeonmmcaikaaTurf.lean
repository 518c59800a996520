/- Proved: TopTurf answers true for every input and leaves its arguments as they were. No condition. -/
import Derived.Test.YtpndeonmmcaikaaL5
namespace Go.Proofs.Ytpndeonmmcaikaa
open Go.G Foot4 Sod2 FootW Go.ChangeShapes Go.WideShapes Go.ChangeAt Go.RowKit
set_option maxRecDepth 1000000
theorem turf_lifted (os : Os) (started : os.Started) (H : Type) (enc : TypeId × Value → H) :
    ReturnsInHanded {} Try.checked os 3 .any (Rows.topTurfSpec.pre6 enc Try.prog Try.f3 Rows.topTurfRow.domain false) (Rows.topTurfSpec.post enc Try.prog Try.f3 false true false false) := by
  refine returnsInHanded_of_change (C := Try.checked) own0 started (by kernel_rfl) Try.func3
    (ChangeSpec.witness6 (enc := enc) (C := Try.checked) false ⟨#[], #[.agg #[.slice none 0 0, i64 0, i64 0, i64 0, i64 0, i64 0, i64 0, i64 0, .slice none 0 0], .slice none 0 0, .slice none 0 0], []⟩ 8 (by kernel_rfl) (by kernel_rfl) (by kernel_rfl) (by kernel_rfl)) ?_
  intro W base args ds gs before hval0 hW _ _
  have hval : ∀ (j : Nat) t v, Try.f3.params[j]? = some t → args[j]? = some v → Value.okWide Try.prog W .any base t v := hval0
  obtain ⟨p, q, hA0, hV, hpq, hfz, hnd⟩ := id hW
  have hA : DataW.TrodAll enc Try.prog W 0 (fun _ => true) true Try.f3.params.toList args.toList ds p := hA0
  rw [Try.params3] at hA hval
  obtain ⟨v0, v1, v2, d0, d1, d2, p0, p1, p2, rfl, rfl, rfl, h0, h1, h2⟩ := trodAll_three hA
  obtain ⟨F, ro, rc, ho, hc, rfl, r1, r2⟩ := get26 (hval 0 26 v0 rfl rfl) h0
  obtain ⟨ka, kc, bl, rfl, r3, r4, hkl⟩ := SodW.getSods (hval 1 27 v1 rfl rfl) h1
  obtain ⟨ba, bc, bys, rfl, r5, hu, hbl⟩ := get50 (hval 2 28 v2 rfl rfl) h2
  refine ((turf_v F ro ho rc hc bl ka kc bys ba bc hu hbl hkl).law W (monoR r1 (monoR r2 (monoR r3 (SodW.monoA r4 (monoR r5 mono0)))))).mono fun e W' ⟨he, hb⟩ => ?_
  subst he
  exact ⟨_, rfl, post_of_below hW rfl laid0 (by kernel_rfl) rfl Try.underlying4 rfl hb⟩
theorem turf_holds : Rows.TopTurfSaid :=
  OpenClaim.holds_of_wide 3 Try.f3 rfl rfl rfl rfl rfl rfl rfl ⟨rfl, rfl, rfl, rfl, rfl⟩ rfl rfl rfl rfl rfl (by kernel_rfl) Try.func3 (by kernel_rfl)
    (of_decide_eq_true (by kernel_rfl)) (by unfold Func.isWrapper; first | (rw [if_pos (by decide +kernel)]; kernel_rfl) | (rw [if_neg (by decide +kernel)]; exact ⟨rfl, rfl⟩))
    (fun os started H enc _ => turf_lifted os started H enc)
end Go.Proofs.Ytpndeonmmcaikaa
#print axioms Go.Proofs.Ytpndeonmmcaikaa.turf_holds
