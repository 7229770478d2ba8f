/- DutyBounds (P10.2): for every account the law returns true, and the argument reads afterwards as it read before. No further condition. -/
import Derived.Test.YtkmgffkfbocebaaRows
import Derived.Test.YtkmgffkfbocebaaP7
namespace Go.Proofs.Ytkmgffkfbocebaa
open Go.ChangeShapes Go.WideShapes Go.ChangeAt Go.RowKit
set_option maxRecDepth 100000
theorem dutyBounds_lifted (os : Os) (started : os.Started) (H : Type) (enc : TypeId × Value → H) :
    ReturnsInHanded {} Try.checked os 4 .any (Rows.dutyBoundsSpec.pre6 enc Try.prog Try.f4 Rows.dutyBoundsRow.domain false) (Rows.dutyBoundsSpec.post enc Try.prog Try.f4 false true false false) := by
  refine returnsInHanded_of_change (C := Try.checked) AM.Try.tp_own started (by kernel_rfl) Try.func4
    (ChangeSpec.witness6 (enc := enc) (C := Try.checked) false ⟨#[], #[.agg #[.int .i64 0, .int .i64 0, .int .i64 0, .int .i64 0, .slice none 0 0, .slice none 0 0]], []⟩ 8 (by kernel_rfl) (by kernel_rfl) (by kernel_rfl) (by kernel_rfl)) ?_
  intro W base args ds gs before hval0 hW _ _
  have hval : ∀ (j : Nat) t v, Try.f4.params[j]? = some t → args[j]? = some v → Value.okWide Try.prog W .any base t v := hval0
  have hW' := hW
  obtain ⟨p, q, hA0, hV, rfl, _, _⟩ := hW
  have hA : DataW.TrodAll enc Try.prog W 0 (fun _ => true) true Try.f4.params.toList args.toList ds p := hA0
  rw [Try.params4] at hA hval
  obtain ⟨v0, d0, rfl, rfl, h0⟩ := trodAll_one hA
  obtain ⟨rfl, rfl⟩ := trodVars_none hV
  obtain ⟨a, ha, ra⟩ := AM.Try.open_acc (hval 0 25 v0 rfl rfl) h0
  exact AM.Try.law_calls (AM.Try.c4 a ha) rfl (fun θ i x hx => by
    match i, hx with
    | 0, hx => cases hx; exact ra θ) rfl (by rw [Try.params4]; decide) rfl rfl hW'
theorem dutyBounds_holds : Rows.DutyBoundsSaid :=
  OpenClaim.holds_of_wide 4 Try.f4 rfl rfl rfl rfl rfl rfl rfl ⟨rfl, rfl, rfl, rfl, rfl⟩ rfl rfl rfl rfl rfl (by kernel_rfl) Try.func4 (by kernel_rfl)
    (of_decide_eq_true (by kernel_rfl)) (by unfold Func.isWrapper; first | (rw [if_pos (by decide +kernel)]; kernel_rfl) | (rw [if_neg (by decide +kernel)]; exact ⟨rfl, rfl⟩))
    (fun os started H enc _ => dutyBounds_lifted os started H enc)
end Go.Proofs.Ytkmgffkfbocebaa
