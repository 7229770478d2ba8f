/- WortBeer: for every argument the law returns true, and the arguments read afterwards as they read before. No further condition. -/
import Derived.Test.YtbgiddcgdgdmbaaRows
import Derived.Test.YtbgiddcgdgdmbaaXBeer
namespace Go.Proofs.Ytbgiddcgdgdmbaa
open Go.ChangeShapes Go.WideShapes Go.ChangeAt Go.RowKit
set_option maxRecDepth 100000
theorem wf8 {x : Int} (h : (Lit.int .u8 x).wf = true) : 0 ≤ x ∧ x < 256 := by
  simp [Lit.wf, IntKind.min, IntKind.max, IntKind.signed, IntKind.bits] at h
  omega
theorem wortBeer_lifted (os : Os) (started : os.Started) (H : Type) (enc : TypeId × Value → H) :
    ReturnsInHanded {} Try.checked os 7 .any (Rows.wortBeerSpec.pre6 enc Try.prog Try.f7 Rows.wortBeerRow.domain false) (Rows.wortBeerSpec.post enc Try.prog Try.f7 false true false false) := by
  refine returnsInHanded_of_change (C := Try.checked) AM.Try.tp_own started (by kernel_rfl) Try.func7
    (ChangeSpec.witness6 (enc := enc) (C := Try.checked) false ⟨#[], #[.slice none 0 0, .int .u8 0, .int .u8 0, .int .u8 0], []⟩ 8 (by kernel_rfl) (by kernel_rfl) (by kernel_rfl) (by kernel_rfl)) ?_
  intro W base args ds gs before hval0 hW _ _
  have hval : ∀ (j : Nat) t v, Try.f7.params[j]? = some t → args[j]? = some v → Value.okWide Try.prog W .any base t v := hval0
  have hW' := hW
  obtain ⟨p, q, hA0, hV, rfl, _, _⟩ := hW
  have hA : DataW.TrodAll enc Try.prog W 0 (fun _ => true) true Try.f7.params.toList args.toList ds p := hA0
  rw [Try.params7] at hA hval
  obtain ⟨v0, v1, v2, v3, d0, d1, d2, d3, p0, p1, p2, p3, rfl, rfl, rfl, h0, h1, h2, h3⟩ := trodAll_four hA
  obtain ⟨rfl, rfl⟩ := trodVars_none hV
  obtain ⟨a0, ha0, ra0⟩ := AM.Try.open_isl (hval 0 22 v0 rfl rfl) h0
  obtain ⟨a1, rfl, rfl, rfl, w1⟩ := open_int Try.underlying5 (hval 1 5 v1 rfl rfl) h1
  obtain ⟨b1, rfl⟩ : ∃ b : Nat, a1 = b := ⟨a1.toNat, by have := (wf8 w1).1; omega⟩
  have g1 : b1 < 256 := by have := (wf8 w1).2; omega
  obtain ⟨a2, rfl, rfl, rfl, w2⟩ := open_int Try.underlying5 (hval 2 5 v2 rfl rfl) h2
  obtain ⟨b2, rfl⟩ : ∃ b : Nat, a2 = b := ⟨a2.toNat, by have := (wf8 w2).1; omega⟩
  have g2 : b2 < 256 := by have := (wf8 w2).2; omega
  obtain ⟨a3, rfl, rfl, rfl, w3⟩ := open_int Try.underlying5 (hval 3 5 v3 rfl rfl) h3
  obtain ⟨b3, rfl⟩ : ∃ b : Nat, a3 = b := ⟨a3.toNat, by have := (wf8 w3).1; omega⟩
  have g3 : b3 < 256 := by have := (wf8 w3).2; omega
  exact AM.law_calls AM.Try.brP (AM.Try.c_wortBeer a0 b1 b2 b3 ha0 g1 g2 g3) rfl (fun θ i x hx => by
    match i, hx with
    | 0, hx => cases hx; exact ra0 θ
    | 1, hx => cases hx; exact .p _ _ (.val _ rfl)
    | 2, hx => cases hx; exact .p _ _ (.val _ rfl)
    | 3, hx => cases hx; exact .p _ _ (.val _ rfl)) rfl (by rw [Try.params7]; decide) rfl rfl hW'
theorem wortBeer_holds : Rows.WortBeerSaid :=
  OpenClaim.holds_of_wide 7 Try.f7 rfl rfl rfl rfl rfl rfl rfl ⟨rfl, rfl, rfl, rfl, rfl⟩ rfl rfl rfl rfl rfl (by kernel_rfl) Try.func7 (by kernel_rfl)
    (of_decide_eq_true (by kernel_rfl)) (by unfold Func.isWrapper; first | (rw [if_pos (by decide +kernel)]; kernel_rfl) | (rw [if_neg (by decide +kernel)]; exact ⟨rfl, rfl⟩))
    (fun os started H enc _ => wortBeer_lifted os started H enc)
end Go.Proofs.Ytbgiddcgdgdmbaa
