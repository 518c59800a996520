/- Proved: TopDrained answers true for every input and leaves its arguments as they were. No condition. -/
import Derived.Test.YtpndeonmmcaikaaGreatM5
namespace Go.Proofs.YtpndeonmmcaikaaGreat
open Go.G Foot4 Drain7 FootW Go.ChangeShapes Go.WideShapes Go.ChangeAt Go.RowKit
set_option maxRecDepth 1000000
theorem drained_lifted (os : Os) (started : os.Started) (H : Type) (enc : TypeId × Value → H) :
    ReturnsInHanded {} Tryz.checked os 3 .any (Rows.topDrainedSpec.pre6 enc Tryz.prog Tryz.f3 Rows.topDrainedRow.domain false) (Rows.topDrainedSpec.post enc Tryz.prog Tryz.f3 false true false false) := by
  refine returnsInHanded_of_change (C := Tryz.checked) own0 started (by kernel_rfl) Tryz.func3
    (ChangeSpec.witness6 (enc := enc) (C := Tryz.checked) false ⟨#[], #[.agg #[i64 0, i64 0, .slice none 0 0, .slice none 0 0], .agg #[.slice none 0 0, .slice none 0 0, .slice none 0 0, .slice none 0 0], .slice none 0 0], []⟩ 8 (by kernel_rfl) (by kernel_rfl) (by kernel_rfl) (by kernel_rfl)) ?_
  intro W base args ds gs before hval0 hW _ _
  have hval : ∀ (j : Nat) t v, Tryz.f3.params[j]? = some t → args[j]? = some v → Value.okWide Tryz.prog W .any base t v := hval0
  obtain ⟨p, q, hA0, hV, hpq, hfz, hnd⟩ := id hW
  have hA : DataW.TrodAll enc Tryz.prog W 0 (fun _ => true) true Tryz.f3.params.toList args.toList ds p := hA0
  rw [Tryz.params3] at hA hval
  obtain ⟨v0, v1, v2, d0, d1, d2, p0, p1, p2, rfl, rfl, rfl, h0, h1, h2⟩ := trodAll_three hA
  obtain ⟨B, lo, mo, lc, mc, rfl, r1, r2⟩ := DrW.getK (hval 0 25 v0 rfl rfl) h0
  obtain ⟨D, bo, wo, ro, so, bc, wc, rc, sc, rfl, r3, r4, r5, r6⟩ := DrW.getD_ (hval 1 30 v1 rfl rfl) h1
  obtain ⟨ba, uc, bys, rfl, r7, hu, hbl⟩ := get50 (hval 2 31 v2 rfl rfl) h2
  refine ((DrW.drained_v B lo mo lc mc D bo wo ro so bc wc rc sc bys ba uc hu hbl).law W (monoR r1 (monoR r2 (monoR r3 (monoR r4 (monoR r5 (monoR r6 (monoR r7 mono0)))))))).mono fun e W' ⟨he, hb⟩ => ?_
  subst he
  exact ⟨_, rfl, post_of_below hW rfl laid0 (by kernel_rfl) rfl Tryz.underlying4 rfl hb⟩
theorem drained_holds : Rows.TopDrainedSaid :=
  OpenClaim.holds_of_wide 3 Tryz.f3 rfl rfl rfl rfl rfl rfl rfl ⟨rfl, rfl, rfl, rfl, rfl⟩ rfl rfl rfl rfl rfl (by kernel_rfl) Tryz.func3 (by kernel_rfl)
    (of_decide_eq_true (by kernel_rfl)) (by unfold Func.isWrapper; first | (rw [if_pos (by decide +kernel)]; kernel_rfl) | (rw [if_neg (by decide +kernel)]; exact ⟨rfl, rfl⟩))
    (fun os started H enc _ => drained_lifted os started H enc)
end Go.Proofs.YtpndeonmmcaikaaGreat
#print axioms Go.Proofs.YtpndeonmmcaikaaGreat.drained_holds
