/- WortMade: for every argument the law returns true, and the arguments read afterwards as they read before. No further condition. -/
import Derived.Test.YtbgiddcgdgdmbaaRows
import Derived.Test.YtbgiddcgdgdmbaaXMade
namespace Go.Proofs.Ytbgiddcgdgdmbaa
open Go.ChangeShapes Go.WideShapes Go.ChangeAt Go.RowKit
set_option maxRecDepth 100000
theorem wortMade_lifted (os : Os) (started : os.Started) (H : Type) (enc : TypeId × Value → H) :
    ReturnsInHanded {} Try.checked os 5 .any (Rows.wortMadeSpec.pre6 enc Try.prog Try.f5 Rows.wortMadeRow.domain false) (Rows.wortMadeSpec.post enc Try.prog Try.f5 false true false false) := by
  refine returnsInHanded_of_change (C := Try.checked) AM.Try.tp_own started (by kernel_rfl) Try.func5
    (ChangeSpec.witness6 (enc := enc) (C := Try.checked) false ⟨#[], #[.slice none 0 0, .agg #[.int .i64 0, .int .i64 0], .agg #[.int .i64 0, .int .i64 0], .slice none 0 0], []⟩ 8 (by kernel_rfl) (by kernel_rfl) (by kernel_rfl) (by kernel_rfl)) ?_
  intro W base args ds gs before hval0 hW _ _
  have hval : ∀ (j : Nat) t v, Try.f5.params[j]? = some t → args[j]? = some v → Value.okWide Try.prog W .any base t v := hval0
  have hW' := hW
  obtain ⟨p, q, hA0, hV, rfl, _, _⟩ := hW
  have hA : DataW.TrodAll enc Try.prog W 0 (fun _ => true) true Try.f5.params.toList args.toList ds p := hA0
  rw [Try.params5] at hA hval
  obtain ⟨v0, v1, v2, v3, d0, d1, d2, d3, p0, p1, p2, p3, rfl, rfl, rfl, h0, h1, h2, h3⟩ := trodAll_four hA
  obtain ⟨rfl, rfl⟩ := trodVars_none hV
  obtain ⟨a0, ha0, ra0⟩ := AM.Try.open_isl (hval 0 22 v0 rfl rfl) h0
  obtain ⟨a1, ha1, ra1⟩ := AM.Try.open_rng (hval 1 91 v1 rfl rfl) h1
  obtain ⟨a2, ha2, ra2⟩ := AM.Try.open_rng (hval 2 91 v2 rfl rfl) h2
  obtain ⟨a3, ha3, ra3⟩ := AM.Try.open_rngs (hval 3 92 v3 rfl rfl) h3
  exact AM.law_calls AM.Try.brP (AM.Try.c_wortMade a0 a1 a2 a3 ha0 ha1 ha2 ha3) rfl (fun θ i x hx => by
    match i, hx with
    | 0, hx => cases hx; exact ra0 θ
    | 1, hx => cases hx; exact ra1 θ
    | 2, hx => cases hx; exact ra2 θ
    | 3, hx => cases hx; exact ra3 θ) rfl (by rw [Try.params5]; decide) rfl rfl hW'
theorem wortMade_holds : Rows.WortMadeSaid :=
  OpenClaim.holds_of_wide 5 Try.f5 rfl rfl rfl rfl rfl rfl rfl ⟨rfl, rfl, rfl, rfl, rfl⟩ rfl rfl rfl rfl rfl (by kernel_rfl) Try.func5 (by kernel_rfl)
    (of_decide_eq_true (by kernel_rfl)) (by unfold Func.isWrapper; first | (rw [if_pos (by decide +kernel)]; kernel_rfl) | (rw [if_neg (by decide +kernel)]; exact ⟨rfl, rfl⟩))
    (fun os started H enc _ => wortMade_lifted os started H enc)
end Go.Proofs.Ytbgiddcgdgdmbaa
