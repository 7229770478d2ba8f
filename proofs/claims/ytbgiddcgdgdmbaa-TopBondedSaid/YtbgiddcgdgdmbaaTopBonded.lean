/- TopBonded: for every argument the law returns true, and the arguments read afterwards as they read before. No further condition. -/
import Derived.Test.YtbgiddcgdgdmbaaRows
import Derived.Test.YtbgiddcgdgdmbaaXTopBonded
namespace Go.Proofs.Ytbgiddcgdgdmbaa
open Go.ChangeShapes Go.WideShapes Go.ChangeAt Go.RowKit
set_option maxRecDepth 100000
theorem wf8 {x : Int} (h : (Lit.int .u8 x).wf = true) : 0 ≤ x ∧ x < 256 := by
  simp [Lit.wf, IntKind.min, IntKind.max, IntKind.signed, IntKind.bits] at h
  omega
theorem topBonded_lifted (os : Os) (started : os.Started) (H : Type) (enc : TypeId × Value → H) :
    ReturnsInHanded {} Try.checked os 4 .any (Rows.topBondedSpec.pre6 enc Try.prog Try.f4 Rows.topBondedRow.domain false) (Rows.topBondedSpec.post enc Try.prog Try.f4 false true false false) := by
  refine returnsInHanded_of_change (C := Try.checked) AM.Try.tp_own started (by kernel_rfl) Try.func4
    (ChangeSpec.witness6 (enc := enc) (C := Try.checked) false ⟨#[], #[.agg #[.slice none 0 0, .slice none 0 0, .slice none 0 0, .int .i64 0, .slice none 0 0], .int .u8 0], []⟩ 8 (by kernel_rfl) (by kernel_rfl) (by kernel_rfl) (by kernel_rfl)) ?_
  intro W base args ds gs before hval0 hW _ _
  have hval : ∀ (j : Nat) t v, Try.f4.params[j]? = some t → args[j]? = some v → Value.okWide Try.prog W .any base t v := hval0
  have hW' := hW
  obtain ⟨p, q, hA0, hV, rfl, _, _⟩ := hW
  have hA : DataW.TrodAll enc Try.prog W 0 (fun _ => true) true Try.f4.params.toList args.toList ds p := hA0
  rw [Try.params4] at hA hval
  obtain ⟨v0, v1, d0, d1, p0, p1, rfl, rfl, rfl, h0, h1⟩ := trodAll_two hA
  obtain ⟨rfl, rfl⟩ := trodVars_none hV
  obtain ⟨a0, ha0, ra0⟩ := AM.Try.open_sto (hval 0 28 v0 rfl rfl) h0
  obtain ⟨a1, rfl, rfl, rfl, w1⟩ := open_int Try.underlying5 (hval 1 5 v1 rfl rfl) h1
  obtain ⟨b1, rfl⟩ : ∃ b : Nat, a1 = b := ⟨a1.toNat, by have := (wf8 w1).1; omega⟩
  have g1 : b1 < 256 := by have := (wf8 w1).2; omega
  exact AM.law_calls AM.Try.brP (AM.Try.c_topBonded a0 b1 ha0 g1) rfl (fun θ i x hx => by
    match i, hx with
    | 0, hx => cases hx; exact ra0 θ
    | 1, hx => cases hx; exact .p _ _ (.val _ rfl)) rfl (by rw [Try.params4]; decide) rfl rfl hW'
theorem topBonded_holds : Rows.TopBondedSaid :=
  OpenClaim.holds_of_wide 4 Try.f4 rfl rfl rfl rfl rfl rfl rfl ⟨rfl, rfl, rfl, rfl, rfl⟩ rfl rfl rfl rfl rfl (by kernel_rfl) Try.func4 (by kernel_rfl)
    (of_decide_eq_true (by kernel_rfl)) (by unfold Func.isWrapper; first | (rw [if_pos (by decide +kernel)]; kernel_rfl) | (rw [if_neg (by decide +kernel)]; exact ⟨rfl, rfl⟩))
    (fun os started H enc _ => topBonded_lifted os started H enc)
end Go.Proofs.Ytbgiddcgdgdmbaa
