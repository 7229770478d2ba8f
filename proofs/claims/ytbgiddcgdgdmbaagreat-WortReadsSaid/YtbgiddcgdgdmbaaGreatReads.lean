/- WortReads: for every argument the law returns true, and the arguments read afterwards as they read before. No further condition. -/
import Derived.Test.YtbgiddcgdgdmbaaGreatRows
import Derived.Test.YtbgiddcgdgdmbaaGreatXReads
namespace Go.Proofs.YtbgiddcgdgdmbaaGreat
open Go.ChangeShapes Go.WideShapes Go.ChangeAt Go.RowKit
set_option maxRecDepth 100000
theorem wf16 {x : Int} (h : (Lit.int .u16 x).wf = true) : 0 ≤ x ∧ x < 65536 := by
  simp [Lit.wf, IntKind.min, IntKind.max, IntKind.signed, IntKind.bits] at h
  omega
theorem wf8 {x : Int} (h : (Lit.int .u8 x).wf = true) : 0 ≤ x ∧ x < 256 := by
  simp [Lit.wf, IntKind.min, IntKind.max, IntKind.signed, IntKind.bits] at h
  omega
theorem wortReads_lifted (os : Os) (started : os.Started) (H : Type) (enc : TypeId × Value → H) :
    ReturnsInHanded {} Tryz.checked os 11 .any (Rows.wortReadsSpec.pre6 enc Tryz.prog Tryz.f11 Rows.wortReadsRow.domain false) (Rows.wortReadsSpec.post enc Tryz.prog Tryz.f11 false true false false) := by
  refine returnsInHanded_of_change (C := Tryz.checked) AM.Try.tp_own started (by kernel_rfl) Tryz.func11
    (ChangeSpec.witness6 (enc := enc) (C := Tryz.checked) false ⟨#[], #[.agg #[.slice none 0 0, .slice none 0 0], .int .u16 0, .int .u8 0, .int .u8 0, .int .u8 0], []⟩ 8 (by kernel_rfl) (by kernel_rfl) (by kernel_rfl) (by kernel_rfl)) ?_
  intro W base args ds gs before hval0 hW _ _
  have hval : ∀ (j : Nat) t v, Tryz.f11.params[j]? = some t → args[j]? = some v → Value.okWide Tryz.prog W .any base t v := hval0
  have hW' := hW
  obtain ⟨p, q, hA0, hV, rfl, _, _⟩ := hW
  have hA : DataW.TrodAll enc Tryz.prog W 0 (fun _ => true) true Tryz.f11.params.toList args.toList ds p := hA0
  rw [Tryz.params11] at hA hval
  obtain ⟨v0, w0_, d0, e0_, p0, q0, a0_, rfl, rfl, h0, t0_⟩ := trodAll_cons hA
  obtain ⟨v1, w1_, d1, e1_, p1, q1, a1_, rfl, rfl, h1, t1_⟩ := trodAll_cons t0_
  obtain ⟨v2, w2_, d2, e2_, p2, q2, a2_, rfl, rfl, h2, t2_⟩ := trodAll_cons t1_
  obtain ⟨v3, w3_, d3, e3_, p3, q3, a3_, rfl, rfl, h3, t3_⟩ := trodAll_cons t2_
  obtain ⟨v4, w4_, d4, e4_, p4, q4, a4_, rfl, rfl, h4, t4_⟩ := trodAll_cons t3_
  obtain ⟨z_, rfl, rfl⟩ := trodAll_nil t4_
  obtain rfl : args = #[v0, v1, v2, v3, v4] := by cases args; simp_all
  obtain ⟨rfl, rfl⟩ := trodVars_none hV
  obtain ⟨a0, ha0, ra0⟩ := AM.Try.open_brew (hval 0 25 v0 rfl rfl) h0
  obtain ⟨a1, rfl, rfl, rfl, w1⟩ := open_int Tryz.underlying83 (hval 1 83 v1 rfl rfl) h1
  obtain ⟨b1, rfl⟩ : ∃ b : Nat, a1 = b := ⟨a1.toNat, by have := (wf16 w1).1; omega⟩
  have g1 : b1 < 65536 := by have := (wf16 w1).2; omega
  obtain ⟨a2, rfl, rfl, rfl, w2⟩ := open_int Tryz.underlying5 (hval 2 5 v2 rfl rfl) h2
  obtain ⟨b2, rfl⟩ : ∃ b : Nat, a2 = b := ⟨a2.toNat, by have := (wf8 w2).1; omega⟩
  have g2 : b2 < 256 := by have := (wf8 w2).2; omega
  obtain ⟨a3, rfl, rfl, rfl, w3⟩ := open_int Tryz.underlying5 (hval 3 5 v3 rfl rfl) h3
  obtain ⟨b3, rfl⟩ : ∃ b : Nat, a3 = b := ⟨a3.toNat, by have := (wf8 w3).1; omega⟩
  have g3 : b3 < 256 := by have := (wf8 w3).2; omega
  obtain ⟨a4, rfl, rfl, rfl, w4⟩ := open_int Tryz.underlying5 (hval 4 5 v4 rfl rfl) h4
  obtain ⟨b4, rfl⟩ : ∃ b : Nat, a4 = b := ⟨a4.toNat, by have := (wf8 w4).1; omega⟩
  have g4 : b4 < 256 := by have := (wf8 w4).2; omega
  exact AM.law_calls AM.Try.brP (AM.Try.c_wortReads a0 b1 b2 b3 b4 ha0 g1 g2 g3 g4) rfl (fun θ i x hx => by
    match i, hx with
    | 0, hx => cases hx; exact ra0 θ
    | 1, hx => cases hx; exact .p _ _ (.val _ rfl)
    | 2, hx => cases hx; exact .p _ _ (.val _ rfl)
    | 3, hx => cases hx; exact .p _ _ (.val _ rfl)
    | 4, hx => cases hx; exact .p _ _ (.val _ rfl)) rfl (by rw [Tryz.params11]; decide) rfl rfl hW'
theorem wortReads_holds : Rows.WortReadsSaid :=
  OpenClaim.holds_of_wide 11 Tryz.f11 rfl rfl rfl rfl rfl rfl rfl ⟨rfl, rfl, rfl, rfl, rfl⟩ rfl rfl rfl rfl rfl (by kernel_rfl) Tryz.func11 (by kernel_rfl)
    (of_decide_eq_true (by kernel_rfl)) (by unfold Func.isWrapper; first | (rw [if_pos (by decide +kernel)]; kernel_rfl) | (rw [if_neg (by decide +kernel)]; exact ⟨rfl, rfl⟩))
    (fun os started H enc _ => wortReads_lifted os started H enc)
end Go.Proofs.YtbgiddcgdgdmbaaGreat
