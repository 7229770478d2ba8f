/- DutyPays (P10.3): for every account, every list of days and every number the law returns true, and the arguments read afterwards as they read before. No further condition. -/
import Derived.Test.YtkmgffkfbocebaaRows
import Derived.Test.YtkmgffkfbocebaaP9
namespace Go.Proofs.Ytkmgffkfbocebaa
open Go.ChangeShapes Go.WideShapes Go.ChangeAt Go.RowKit
set_option maxRecDepth 100000
theorem dutyPays_lifted (os : Os) (started : os.Started) (H : Type) (enc : TypeId × Value → H) :
    ReturnsInHanded {} Try.checked os 5 .any (Rows.dutyPaysSpec.pre6 enc Try.prog Try.f5 Rows.dutyPaysRow.domain false) (Rows.dutyPaysSpec.post enc Try.prog Try.f5 false true false false) := by
  refine returnsInHanded_of_change (C := Try.checked) AM.Try.tp_own started (by kernel_rfl) Try.func5
    (ChangeSpec.witness6 (enc := enc) (C := Try.checked) false ⟨#[], #[.agg #[.int .i64 0, .int .i64 0, .int .i64 0, .int .i64 0, .slice none 0 0, .slice none 0 0], .slice none 0 0, .int .i64 0], []⟩ 8 (by kernel_rfl) (by kernel_rfl) (by kernel_rfl) (by kernel_rfl)) ?_
  intro W base args ds gs before hval0 hW _ _
  have hval : ∀ (j : Nat) t v, Try.f5.params[j]? = some t → args[j]? = some v → Value.okWide Try.prog W .any base t v := hval0
  have hW' := hW
  obtain ⟨p, q, hA0, hV, rfl, _, _⟩ := hW
  have hA : DataW.TrodAll enc Try.prog W 0 (fun _ => true) true Try.f5.params.toList args.toList ds p := hA0
  rw [Try.params5] at hA hval
  obtain ⟨v0, v1, v2, d0, d1, d2, p0, p1, p2, rfl, rfl, rfl, h0, h1, h2⟩ := trodAll_three hA
  obtain ⟨rfl, rfl⟩ := trodVars_none hV
  obtain ⟨a, ha, ra⟩ := AM.Try.open_acc (hval 0 25 v0 rfl rfl) h0
  obtain ⟨l, rl, _⟩ := AM.Try.open_isl (hval 1 26 v1 rfl rfl) h1
  obtain ⟨n, rfl, rfl, rfl, _⟩ := open_int Try.underlying3 (hval 2 3 v2 rfl rfl) h2
  exact AM.Try.law_calls (AM.Try.c5 a l n ha) rfl (fun θ i x hx => by
    match i, hx with
    | 0, hx => cases hx; exact ra θ
    | 1, hx => cases hx; exact rl θ
    | 2, hx => cases hx; exact .p _ _ (.val _ rfl)) rfl (by rw [Try.params5]; decide) rfl rfl hW'
theorem dutyPays_holds : Rows.DutyPaysSaid :=
  OpenClaim.holds_of_wide 5 Try.f5 rfl rfl rfl rfl rfl rfl rfl ⟨rfl, rfl, rfl, rfl, rfl⟩ rfl rfl rfl rfl rfl (by kernel_rfl) Try.func5 (by kernel_rfl)
    (of_decide_eq_true (by kernel_rfl)) (by unfold Func.isWrapper; first | (rw [if_pos (by decide +kernel)]; kernel_rfl) | (rw [if_neg (by decide +kernel)]; exact ⟨rfl, rfl⟩))
    (fun os started H enc _ => dutyPays_lifted os started H enc)
end Go.Proofs.Ytkmgffkfbocebaa
