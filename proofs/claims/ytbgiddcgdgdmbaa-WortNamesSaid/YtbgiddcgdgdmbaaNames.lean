/- WortNames: for every argument the law returns true, and the arguments read afterwards as they read before. No further condition. -/
import Derived.Test.YtbgiddcgdgdmbaaRows
import Derived.Test.YtbgiddcgdgdmbaaXNames
namespace Go.Proofs.Ytbgiddcgdgdmbaa
open Go.ChangeShapes Go.WideShapes Go.ChangeAt Go.RowKit
set_option maxRecDepth 100000
theorem wortNames_lifted (os : Os) (started : os.Started) (H : Type) (enc : TypeId × Value → H) :
    ReturnsInHanded {} Try.checked os 6 .any (Rows.wortNamesSpec.pre6 enc Try.prog Try.f6 Rows.wortNamesRow.domain false) (Rows.wortNamesSpec.post enc Try.prog Try.f6 false true false false) := by
  refine returnsInHanded_of_change (C := Try.checked) AM.Try.tp_own started (by kernel_rfl) Try.func6
    (ChangeSpec.witness6 (enc := enc) (C := Try.checked) false ⟨#[], #[], []⟩ 8 (by kernel_rfl) (by kernel_rfl) (by kernel_rfl) (by kernel_rfl)) ?_
  intro W base args ds gs before hval0 hW _ _
  have hval : ∀ (j : Nat) t v, Try.f6.params[j]? = some t → args[j]? = some v → Value.okWide Try.prog W .any base t v := hval0
  have hW' := hW
  obtain ⟨p, q, hA0, hV, rfl, _, _⟩ := hW
  have hA : DataW.TrodAll enc Try.prog W 0 (fun _ => true) true Try.f6.params.toList args.toList ds p := hA0
  rw [Try.params6] at hA hval
  obtain ⟨hz, rfl, rfl⟩ := trodAll_nil hA
  obtain rfl : args = #[] := by simpa using hz
  obtain ⟨rfl, rfl⟩ := trodVars_none hV
  exact AM.law_calls AM.Try.brP (AM.Try.c_wortNames ) rfl (fun θ i x hx => by
    simp at hx) rfl (by rw [Try.params6]; decide) rfl rfl hW'
theorem wortNames_holds : Rows.WortNamesSaid :=
  OpenClaim.holds_of_wide 6 Try.f6 rfl rfl rfl rfl rfl rfl rfl ⟨rfl, rfl, rfl, rfl, rfl⟩ rfl rfl rfl rfl rfl (by kernel_rfl) Try.func6 (by kernel_rfl)
    (of_decide_eq_true (by kernel_rfl)) (by unfold Func.isWrapper; first | (rw [if_pos (by decide +kernel)]; kernel_rfl) | (rw [if_neg (by decide +kernel)]; exact ⟨rfl, rfl⟩))
    (fun os started H enc _ => wortNames_lifted os started H enc)
end Go.Proofs.Ytbgiddcgdgdmbaa
