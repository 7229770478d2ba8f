/- WortLeaves: for every argument the law returns true, and the arguments read afterwards as they read before. No further condition. -/
import Derived.Test.YtbgiddcgdgdmbaaGreatRows
import Derived.Test.YtbgiddcgdgdmbaaGreatXLeaves
namespace Go.Proofs.YtbgiddcgdgdmbaaGreat
open Go.ChangeShapes Go.WideShapes Go.ChangeAt Go.RowKit
set_option maxRecDepth 100000
theorem wortLeaves_lifted (os : Os) (started : os.Started) (H : Type) (enc : TypeId × Value → H) :
    ReturnsInHanded {} Tryz.checked os 5 .any (Rows.wortLeavesSpec.pre6 enc Tryz.prog Tryz.f5 Rows.wortLeavesRow.domain false) (Rows.wortLeavesSpec.post enc Tryz.prog Tryz.f5 false true false false) := by
  refine returnsInHanded_of_change (C := Tryz.checked) AM.Try.tp_own started (by kernel_rfl) Tryz.func5
    (ChangeSpec.witness6 (enc := enc) (C := Tryz.checked) false ⟨#[], #[.agg #[.slice none 0 0, .slice none 0 0], .slice none 0 0], []⟩ 8 (by kernel_rfl) (by kernel_rfl) (by kernel_rfl) (by kernel_rfl)) ?_
  intro W base args ds gs before hval0 hW _ _
  have hval : ∀ (j : Nat) t v, Tryz.f5.params[j]? = some t → args[j]? = some v → Value.okWide Tryz.prog W .any base t v := hval0
  have hW' := hW
  obtain ⟨p, q, hA0, hV, rfl, _, _⟩ := hW
  have hA : DataW.TrodAll enc Tryz.prog W 0 (fun _ => true) true Tryz.f5.params.toList args.toList ds p := hA0
  rw [Tryz.params5] at hA hval
  obtain ⟨v0, v1, d0, d1, p0, p1, rfl, rfl, rfl, h0, h1⟩ := trodAll_two hA
  obtain ⟨rfl, rfl⟩ := trodVars_none hV
  obtain ⟨a0, ha0, ra0⟩ := AM.Try.open_brew (hval 0 25 v0 rfl rfl) h0
  obtain ⟨a1, ha1, ra1⟩ := AM.Try.open_rdgs (hval 1 63 v1 rfl rfl) h1
  exact AM.law_calls AM.Try.brP (AM.Try.c_wortLeaves a0 a1 ha0 ha1) rfl (fun θ i x hx => by
    match i, hx with
    | 0, hx => cases hx; exact ra0 θ
    | 1, hx => cases hx; exact ra1 θ) rfl (by rw [Tryz.params5]; decide) rfl rfl hW'
theorem wortLeaves_holds : Rows.WortLeavesSaid :=
  OpenClaim.holds_of_wide 5 Tryz.f5 rfl rfl rfl rfl rfl rfl rfl ⟨rfl, rfl, rfl, rfl, rfl⟩ rfl rfl rfl rfl rfl (by kernel_rfl) Tryz.func5 (by kernel_rfl)
    (of_decide_eq_true (by kernel_rfl)) (by unfold Func.isWrapper; first | (rw [if_pos (by decide +kernel)]; kernel_rfl) | (rw [if_neg (by decide +kernel)]; exact ⟨rfl, rfl⟩))
    (fun os started H enc _ => wortLeaves_lifted os started H enc)
end Go.Proofs.YtbgiddcgdgdmbaaGreat
