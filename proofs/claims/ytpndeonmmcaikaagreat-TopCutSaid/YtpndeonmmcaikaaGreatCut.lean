/- Proved: TopCut answers true for every input and leaves its arguments as they were. No condition. -/
import Derived.Test.YtpndeonmmcaikaaGreatL6
namespace Go.Proofs.YtpndeonmmcaikaaGreat
open Go.G Foot4 Sod2 FootW Go.ChangeShapes Go.WideShapes Go.ChangeAt Go.RowKit
set_option maxRecDepth 1000000
theorem cut_lifted (os : Os) (started : os.Started) (H : Type) (enc : TypeId × Value → H) :
    ReturnsInHanded {} Tryz.checked os 4 .any (Rows.topCutSpec.pre6 enc Tryz.prog Tryz.f4 Rows.topCutRow.domain false) (Rows.topCutSpec.post enc Tryz.prog Tryz.f4 false true false false) := by
  refine returnsInHanded_of_change (C := Tryz.checked) own0 started (by kernel_rfl) Tryz.func4
    (ChangeSpec.witness6 (enc := enc) (C := Tryz.checked) false ⟨#[], #[.agg #[.slice none 0 0, .slice none 0 0, .slice none 0 0], .agg #[.slice none 0 0, i64 0, i64 0, .slice none 0 0, i64 0, .slice none 0 0], .int .u8 0, .slice none 0 0], []⟩ 8 (by kernel_rfl) (by kernel_rfl) (by kernel_rfl) (by kernel_rfl)) ?_
  intro W base args ds gs before hval0 hW _ _
  have hval : ∀ (j : Nat) t v, Tryz.f4.params[j]? = some t → args[j]? = some v → Value.okWide Tryz.prog W .any base t v := hval0
  obtain ⟨p, q, hA0, hV, hpq, hfz, hnd⟩ := id hW
  have hA : DataW.TrodAll enc Tryz.prog W 0 (fun _ => true) true Tryz.f4.params.toList args.toList ds p := hA0
  rw [Tryz.params4] at hA hval
  obtain ⟨v0, v1, v2, v3, d0, d1, d2, d3, p0, p1, p2, p3, rfl, rfl, rfl, h0, h1, h2, h3⟩ := trodAll_four hA
  obtain ⟨x, rfl, rx1, rx2, rx3⟩ := SodW.getSod (hval 0 62 v0 rfl rfl) h0
  obtain ⟨B, bo, ro, go, bc, rc, gc, rfl, r1, r2, r3⟩ := BurstW.get28 (hval 1 66 v1 rfl rfl) h1
  obtain ⟨n2, rfl, _, _, y2⟩ := open_int Tryz.underlying5 (hval 2 5 v2 rfl rfl) h2
  obtain ⟨w0, rfl, b0⟩ := BurstW.nat8 y2
  obtain ⟨ba, uc, bys, rfl, r5, hu, hbl⟩ := get50 (hval 3 31 v3 rfl rfl) h3
  refine ((CutW.cutT_v x.B x.po x.so x.lo x.pc x.sc x.lc B bo ro go bc rc gc bys ba uc hu hbl w0 _ b0 rfl).law W (monoR rx1 (monoR rx2 (monoR rx3 (monoR r1 (monoR r2 (monoR r3 (monoR r5 mono0)))))))).mono fun e W' ⟨he, hb⟩ => ?_
  subst he
  exact ⟨_, rfl, post_of_below hW rfl laid0 (by kernel_rfl) rfl Tryz.underlying4 rfl hb⟩
theorem cut_holds : Rows.TopCutSaid :=
  OpenClaim.holds_of_wide 4 Tryz.f4 rfl rfl rfl rfl rfl rfl rfl ⟨rfl, rfl, rfl, rfl, rfl⟩ rfl rfl rfl rfl rfl (by kernel_rfl) Tryz.func4 (by kernel_rfl)
    (of_decide_eq_true (by kernel_rfl)) (by unfold Func.isWrapper; first | (rw [if_pos (by decide +kernel)]; kernel_rfl) | (rw [if_neg (by decide +kernel)]; exact ⟨rfl, rfl⟩))
    (fun os started H enc _ => cut_lifted os started H enc)
end Go.Proofs.YtpndeonmmcaikaaGreat
#print axioms Go.Proofs.YtpndeonmmcaikaaGreat.cut_holds
