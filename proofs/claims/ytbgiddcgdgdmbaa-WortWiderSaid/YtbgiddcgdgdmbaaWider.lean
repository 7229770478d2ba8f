/- WortWider: for every argument the law returns true, and the arguments read afterwards as they read before. No further condition. -/
import Derived.Test.YtbgiddcgdgdmbaaRows
import Derived.Test.YtbgiddcgdgdmbaaXWider
namespace Go.Proofs.Ytbgiddcgdgdmbaa
open Go.ChangeShapes Go.WideShapes Go.ChangeAt Go.RowKit
set_option maxRecDepth 100000
theorem wf8 {x : Int} (h : (Lit.int .u8 x).wf = true) : 0 ≤ x ∧ x < 256 := by
  simp [Lit.wf, IntKind.min, IntKind.max, IntKind.signed, IntKind.bits] at h
  omega
theorem wortWider_lifted (os : Os) (started : os.Started) (H : Type) (enc : TypeId × Value → H) :
    ReturnsInHanded {} Try.checked os 8 .any (Rows.wortWiderSpec.pre6 enc Try.prog Try.f8 Rows.wortWiderRow.domain false) (Rows.wortWiderSpec.post enc Try.prog Try.f8 false true false false) := by
  refine returnsInHanded_of_change (C := Try.checked) AM.Try.tp_own started (by kernel_rfl) Try.func8
    (ChangeSpec.witness6 (enc := enc) (C := Try.checked) false ⟨#[], #[.agg #[.slice none 0 0, .slice none 0 0], .int .u8 0, .int .u8 0, .agg #[.int .i64 0, .int .i64 0, .int .i64 0, .int .i64 0, .int .i64 0], .slice none 0 0, .agg #[.int .i64 0, .int .i64 0], .agg #[.int .i64 0, .int .i64 0], .agg #[.int .i64 0, .int .i64 0]], []⟩ 8 (by kernel_rfl) (by kernel_rfl) (by kernel_rfl) (by kernel_rfl)) ?_
  intro W base args ds gs before hval0 hW _ _
  have hval : ∀ (j : Nat) t v, Try.f8.params[j]? = some t → args[j]? = some v → Value.okWide Try.prog W .any base t v := hval0
  have hW' := hW
  obtain ⟨p, q, hA0, hV, rfl, _, _⟩ := hW
  have hA : DataW.TrodAll enc Try.prog W 0 (fun _ => true) true Try.f8.params.toList args.toList ds p := hA0
  rw [Try.params8] at hA hval
  obtain ⟨v0, w0_, d0, e0_, p0, q0, a0_, rfl, rfl, h0, t0_⟩ := trodAll_cons hA
  obtain ⟨v1, w1_, d1, e1_, p1, q1, a1_, rfl, rfl, h1, t1_⟩ := trodAll_cons t0_
  obtain ⟨v2, w2_, d2, e2_, p2, q2, a2_, rfl, rfl, h2, t2_⟩ := trodAll_cons t1_
  obtain ⟨v3, w3_, d3, e3_, p3, q3, a3_, rfl, rfl, h3, t3_⟩ := trodAll_cons t2_
  obtain ⟨v4, w4_, d4, e4_, p4, q4, a4_, rfl, rfl, h4, t4_⟩ := trodAll_cons t3_
  obtain ⟨v5, w5_, d5, e5_, p5, q5, a5_, rfl, rfl, h5, t5_⟩ := trodAll_cons t4_
  obtain ⟨v6, w6_, d6, e6_, p6, q6, a6_, rfl, rfl, h6, t6_⟩ := trodAll_cons t5_
  obtain ⟨v7, w7_, d7, e7_, p7, q7, a7_, rfl, rfl, h7, t7_⟩ := trodAll_cons t6_
  obtain ⟨z_, rfl, rfl⟩ := trodAll_nil t7_
  obtain rfl : args = #[v0, v1, v2, v3, v4, v5, v6, v7] := by cases args; simp_all
  obtain ⟨rfl, rfl⟩ := trodVars_none hV
  obtain ⟨a0, ha0, ra0⟩ := AM.Try.open_brew (hval 0 123 v0 rfl rfl) h0
  obtain ⟨a1, rfl, rfl, rfl, w1⟩ := open_int Try.underlying5 (hval 1 5 v1 rfl rfl) h1
  obtain ⟨b1, rfl⟩ : ∃ b : Nat, a1 = b := ⟨a1.toNat, by have := (wf8 w1).1; omega⟩
  have g1 : b1 < 256 := by have := (wf8 w1).2; omega
  obtain ⟨a2, rfl, rfl, rfl, w2⟩ := open_int Try.underlying5 (hval 2 5 v2 rfl rfl) h2
  obtain ⟨b2, rfl⟩ : ∃ b : Nat, a2 = b := ⟨a2.toNat, by have := (wf8 w2).1; omega⟩
  have g2 : b2 < 256 := by have := (wf8 w2).2; omega
  obtain ⟨a3, ha3, ra3⟩ := AM.Try.open_rdg (hval 3 125 v3 rfl rfl) h3
  obtain ⟨a4, ha4, ra4⟩ := AM.Try.open_isl (hval 4 22 v4 rfl rfl) h4
  obtain ⟨a5, ha5, ra5⟩ := AM.Try.open_rng (hval 5 91 v5 rfl rfl) h5
  obtain ⟨a6, ha6, ra6⟩ := AM.Try.open_rng (hval 6 91 v6 rfl rfl) h6
  obtain ⟨a7, ha7, ra7⟩ := AM.Try.open_rng (hval 7 91 v7 rfl rfl) h7
  exact AM.law_calls AM.Try.brP (AM.Try.c_wortWider a0 b1 b2 a3 a4 a5 a6 a7 ha0 g1 g2 ha3 ha4 ha5 ha6 ha7) rfl (fun θ i x hx => by
    match i, hx with
    | 0, hx => cases hx; exact ra0 θ
    | 1, hx => cases hx; exact .p _ _ (.val _ rfl)
    | 2, hx => cases hx; exact .p _ _ (.val _ rfl)
    | 3, hx => cases hx; exact ra3 θ
    | 4, hx => cases hx; exact ra4 θ
    | 5, hx => cases hx; exact ra5 θ
    | 6, hx => cases hx; exact ra6 θ
    | 7, hx => cases hx; exact ra7 θ) rfl (by rw [Try.params8]; decide) rfl rfl hW'
theorem wortWider_holds : Rows.WortWiderSaid :=
  OpenClaim.holds_of_wide 8 Try.f8 rfl rfl rfl rfl rfl rfl rfl ⟨rfl, rfl, rfl, rfl, rfl⟩ rfl rfl rfl rfl rfl (by kernel_rfl) Try.func8 (by kernel_rfl)
    (of_decide_eq_true (by kernel_rfl)) (by unfold Func.isWrapper; first | (rw [if_pos (by decide +kernel)]; kernel_rfl) | (rw [if_neg (by decide +kernel)]; exact ⟨rfl, rfl⟩))
    (fun os started H enc _ => wortWider_lifted os started H enc)
end Go.Proofs.Ytbgiddcgdgdmbaa
