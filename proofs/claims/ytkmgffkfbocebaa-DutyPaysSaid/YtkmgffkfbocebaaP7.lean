/- Lemmas for the proof: more of the program's functions, walked on the abstract machine. -/
import Derived.Test.YtkmgffkfbocebaaP6
/- The laws' conditions; the reference: truths. -/
section
namespace AM.Try
open Go AM AM.Duty
open Nat renaming reduceLT → sA, reduceAdd → sB, reduceMul → sC, reduceSub → sD, reduceLeDiff → sE, reduceEqDiff → sF, reduceBEq → sG
open Int renaming reduceAdd → sH, reduceSub → sI, reduceMul → sJ, reduceLT → sK, reduceLE → sL, reduceNeg → sM, reduceToNat → sN, reduceEq → sO
set_option maxHeartbeats 8000000
set_option maxRecDepth 100000
def sureS (a : Acc) : Int := if faultS a = 0 then if possibleS a = true then 0 else 9 else faultS a
theorem c32 (a : Acc) (hl1 : a.rates.length < 1000000) (hl2 : a.entries.length < 1000000) : PCall Go.Proofs.Try.prog 32 [avA a] (i64 (sureS a)) := by
  refine pcall_mk (v := []) (q := []) (N := 12) (rs := [.tmp 2]) Go.Proofs.Try.func32 rfl rfl rfl rfl rfl ?_
  refine awp_seq_k fun K1 hK1 => ?_
  refine awp_ops ?_
  simp (disch := omega) only [amL, sA, ↓reduceIte]
  refine hK1 _ ?_
  refine awp_seq_k fun K2 hK2 => ?_
  refine awp_seq_k fun K3 hK3 => ?_
  refine awp_ops ?_
  simp (disch := omega) only [amL, amT, sA, sB, sF, ↓reduceIte]
  repeat' first | (refine EC_intro (by kernel_rfl) rfl (c24 a hl1 hl2) (by first | exact .inl rfl | exact .inr (.inl rfl)) ?_ ; simp (disch := omega) only [amL, sA, ↓reduceIte])
  refine hK3 _ ?_
  refine awp_seq_k fun K4 hK4 => ?_
  refine awp_ops ?_
  simp (disch := omega) only [ne_eq, amL, amT, sA, ↓reduceIte]
  refine hK4 _ ?_
  refine awp_cond rfl (fun h => ?_) (fun h => ?_)
  ·first
   | exact Bool.noConfusion h
   |skip
    try simp only [Bool.not_eq_true', decide_eq_false_iff_not, decide_not] at h
    refine awp_seq_k fun K5 hK5 => ?_
    refine awp_ops ?_
    simp (disch := omega) only [amL, sA, sF, ↓reduceIte]
    refine hK5 _ ?_
    refine awp_ret ?_
    try simp (disch := omega) only [amL, ↓reduceIte]
    all_goals (unfold sureS; simp_all)
  ·first
   | exact Bool.noConfusion h
   |skip
    try simp only [decide_eq_true_eq, Bool.not_eq_false', decide_not] at h
    refine awp_skip ?_
    refine hK2 _ ?_
    refine awp_seq_k fun K6 hK6 => ?_
    refine awp_seq_k fun K7 hK7 => ?_
    refine awp_ops ?_
    simp (disch := omega) only [amL, amT, sA, sB, sF, ↓reduceIte]
    repeat' first | (refine EC_intro (by kernel_rfl) rfl (c49 a (by omega)) (by first | exact .inl rfl | exact .inr (.inl rfl)) ?_ ; simp (disch := omega) only [amL, ↓reduceIte])
    refine hK7 _ ?_
    refine awp_cond rfl (fun h => ?_) (fun h => ?_)
    ·first
     | exact Bool.noConfusion h
     |skip
      try simp only [Bool.not_eq_true'] at h
      refine awp_seq_k fun K8 hK8 => ?_
      refine awp_ops ?_
      simp (disch := omega) only [amL, sA]
      refine hK8 _ ?_
      refine awp_ret ?_
      try simp (disch := omega) only [amL, ↓reduceIte]
      all_goals (unfold sureS; simp_all)
    ·first
     | exact Bool.noConfusion h
     |skip
      try simp only [Bool.not_eq_false'] at h
      refine awp_skip ?_
      refine hK6 _ ?_
      refine awp_seq_k fun K9 hK9 => ?_
      refine awp_ops ?_
      simp (disch := omega) only [amL, sA]
      refine hK9 _ ?_
      refine awp_ret ?_
      try simp (disch := omega) only [amL, ↓reduceIte]
      all_goals (unfold sureS; simp_all)
def thinS (a : Acc) : Bool := decide (a.rates.length ≤ 7) && decide (a.entries.length ≤ 11)
def fewS (a : Acc) (most : Int) : Bool := thinS a && (decide (faultS a ≠ 0) || decide (sizes a.entries ≤ most))
theorem c19t (a : Acc) : PCall Go.Proofs.Try.prog 19 [avA a] (bl (thinS a)) := c19 a
theorem thin_len {a : Acc} (h : thinS a = true) : a.rates.length ≤ 7 ∧ a.entries.length ≤ 11 := by simpa [thinS] using h
theorem c29 (a : Acc) (most : Int) : PCall Go.Proofs.Try.prog 29 [avA a, i64 most] (bl (fewS a most)) := by
  refine pcall_mk (v := []) (q := []) (N := 18) (rs := [.tmp 4]) Go.Proofs.Try.func29 rfl rfl rfl rfl rfl ?_
  cases hth : thinS a <;> by_cases hf : faultS a = 0
  all_goals try obtain ⟨hl1, hl2⟩ := thin_len hth
  all_goals
    refine awp_seq_k fun K1 hK1 => ?_
    refine awp_ops ?_
    simp (disch := omega) only [amL, sA, sB, ↓reduceIte]
    refine hK1 _ ?_
    refine awp_seq_k fun K2 hK2 => ?_
    refine awp_ops ?_
    simp (disch := omega) only [amL, amT, sA, sB, sF, ↓reduceIte]
    repeat' first | (refine EG_dec (fun h => ?_) (fun h => ?_) <;> simp (disch := omega) only [h, ne_eq, hth, hf, amL, amT, sA, sB, sC, sD, sE, sF, sG, sH, sI, sJ, sK, sL, sM, sN, sO, ↓reduceIte, reduceCtorEq]) | (refine EG_cases (fun h => ?_) (fun h => ?_) <;> simp (disch := omega) only [h, ne_eq, hth, hf, amL, amT, sA, sB, sC, sD, sE, sF, sG, sH, sI, sJ, sK, sL, sM, sN, sO, ↓reduceIte, reduceCtorEq]) | (refine EC_intro (by kernel_rfl) rfl (c19t a) (by first | exact .inl rfl | exact .inr (.inl rfl)) ?_ ; simp (disch := omega) only [hth, amL, amT, sA, sB, sF, ↓reduceIte]) | (refine EC_intro (by kernel_rfl) rfl (c61 a (by omega) (by omega)) (by first | exact .inl rfl | exact .inr (.inl rfl)) ?_ ; simp (disch := omega) only [ne_eq, hf, amL, amT, sA, sB, sF, ↓reduceIte]) | (refine EC_intro (by kernel_rfl) rfl (c50 a (valid_small hf)) (by first | exact .inl rfl | exact .inr (.inl rfl)) ?_ ; simp (disch := omega) only [amL, amT, sA, sF, ↓reduceIte, reduceCtorEq])
    all_goals
     skip
     refine hK2 _ ?_
     refine awp_ret ?_
     try simp (disch := omega) only [amL, ↓reduceIte]
     all_goals first | (simp [fewS, hth, hf]; done) | (omega)
end AM.Try
end
/- The reference: all truths. -/
section
namespace AM.Try
open Go AM AM.Duty
open Nat renaming reduceLT → sA, reduceAdd → sB, reduceMul → sC, reduceSub → sD, reduceLeDiff → sE, reduceEqDiff → sF, reduceBEq → sG
open Int renaming reduceAdd → sH, reduceSub → sI, reduceMul → sJ, reduceLT → sK, reduceLE → sL, reduceNeg → sM, reduceToNat → sN, reduceEq → sO
set_option maxHeartbeats 8000000
set_option maxRecDepth 100000
def truthsTo (a : Acc) (k : Nat) : List (List Int) := ((List.range k).map (nthT a)).filter (isTruth a)
theorem truthsTo_yes {a : Acc} {k : Nat} (h : isTruth a (nthT a k) = true) : truthsTo a (k + 1) = truthsTo a k ++ [nthT a k] := by
  simp [truthsTo, List.range_succ, h]
theorem truthsTo_no {a : Acc} {k : Nat} (h : isTruth a (nthT a k) = false) : truthsTo a (k + 1) = truthsTo a k := by
  simp [truthsTo, List.range_succ, h]
theorem truthsTo_len (a : Acc) (k : Nat) : (truthsTo a k).length ≤ k := Nat.le_trans (List.length_filter_le _ _) (by simp)
def truthsR (a : Acc) : List (List Int) := truthsTo a (manyT a)
theorem take_encL {l : List (List Int)} : (l.map encL).take l.length = l.map encL := List.take_of_length_le (by simp)
theorem c33 (a : Acc) (hv : faultS a = 0) : PCall Go.Proofs.Try.prog 33 [avA a] (.p (.sl ((truthsR a).map encL))) := by
  refine pcall_mk (v := []) (q := []) (N := 29) (rs := [.tmp 2]) Go.Proofs.Try.func33 rfl rfl rfl rfl rfl ?_
  have hsm := valid_small hv
  have hsz := sizes_nat hv
  refine awp_seq_k fun K1 hK1 => ?_
  refine awp_ops ?_
  simp (disch := omega) only [amL, sA, ↓reduceIte]
  refine hK1 _ ?_
  refine awp_seq_k fun K2 hK2 => ?_
  refine awp_ops ?_
  simp (disch := omega) only [amL, sA]
  refine hK2 _ ?_
  refine awp_seq_k fun K3 hK3 => ?_
  refine awp_seq_k fun K4 hK4 => ?_
  refine awp_ops ?_
  simp (disch := omega) only [amL, sA]
  refine hK4 _ ?_
  refine awp_block ?_
  refine awp_adopt' 27 1 3 (by decide) rfl rfl ?_
  refine awp_loop_k (α := Nat) (fun k => ⟨T [(1, .ptr 1 0), (3, .own 27 (truthsTo a k).length), (4, i64 k)], O [(1, .cells (cA a)), (27, .arr 1 ((truthsTo a k).map encL))]⟩) (fun k => manyT a - k) (fun k => k ≤ manyT a) 0 ?_ ?_ (fun k hx5 K5 hK5 => ?_)
  · simp
  · refine le_mk ?_ ?_ ?_ ?_ <;> (try simp (disch := omega) only [amL, sF, sG, ↓reduceIte]); all_goals rfl
  have hk := hx5; unfold manyT at hk; have hlen := truthsTo_len a k
  refine awp_seq_k fun K6 hK6 => ?_
  refine awp_seq_k fun K7 hK7 => ?_
  refine awp_ops ?_
  simp (disch := omega) only [amL, amT, sA, sB, sF, ↓reduceIte]
  repeat' first | (refine EC_intro (by kernel_rfl) rfl (c50 a hsm) (by first | exact .inl rfl | exact .inr (.inl rfl)) ?_ ; simp (disch := omega) only [amL, amT, sA, sF, ↓reduceIte])
  refine hK7 _ ?_
  refine awp_cond rfl (fun h => ?_) (fun h => ?_)
  ·first
   | exact Bool.noConfusion h
   |skip
    try simp only [decide_eq_true_eq] at h
    refine awp_skip ?_
    refine hK6 _ ?_
    refine awp_seq_k fun K8 hK8 => ?_
    refine awp_block ?_
    refine awp_seq_k fun K9 hK9 => ?_
    refine awp_ops ?_
    simp (disch := omega) only [amL, amT, sA, sB, sF, ↓reduceIte]
    repeat' first | (refine EC_intro (by kernel_rfl) rfl (c73 a _ hsm (by omega) (by omega)) (by first | exact .inl rfl | exact .inr (.inl rfl)) ?_ ; simp (disch := omega) only [amL, sA, ↓reduceIte])
    refine hK9 _ ?_
    refine awp_seq_k fun K10 hK10 => ?_
    refine awp_ops ?_
    simp (disch := omega) only [amL, amT, sA, sB, sF, ↓reduceIte]
    repeat' first | (refine EC_intro (by kernel_rfl) rfl (PCall.of_nil 2 rfl (c27 a _ [] (fit_nth hv _) (by decide))) (by first | exact .inl rfl | exact .inr (.inl rfl)) ?_ ; simp (disch := omega) only [amL, sA, sF, ↓reduceIte])
    refine hK10 _ ?_
    refine awp_seq_k fun K11 hK11 => ?_
    refine awp_ops ?_
    simp (disch := omega) only [amL, sA, ↓reduceIte]
    refine hK11 _ ?_
    refine awp_cond rfl (fun h => ?_) (fun h => ?_)
    ·first
     | exact Bool.noConfusion h
     |skip
      try simp only [Bool.not_eq_true', decide_eq_true_eq, decide_eq_false_iff_not, Bool.and_eq_true, Bool.not_eq_false', Bool.not_not, decide_not, Bool.not_true, Bool.not_false] at h
      refine awp_ops ?_
      simp (disch := omega) only [amL, amT, sA, sE, sF, ↓reduceIte, reduceCtorEq]
      refine hK8 _ ?_
      refine awp_ops ?_
      simp (disch := omega) only [amL, amT, sA, sF, ↓reduceIte]
      refine hK5 (k+1) _ ?_ ?_ (le_mk ?_ ?_ ?_ ?_)
      all_goals (try simp (disch := omega) only [amL, sF, sG, ↓reduceIte])
      all_goals first | (unfold manyT; omega) | omega | (rw [truthsTo_yes h]; simp; done) | (rw [truthsTo_no h]; done) | (rw [truthsTo_yes h, List.map_append]; rfl) | (rw [truthsTo_yes h, List.length_append]; rfl)
    ·first
     | exact Bool.noConfusion h
     |skip
      try simp only [Bool.not_eq_true', decide_eq_true_eq, decide_eq_false_iff_not, Bool.and_eq_true, Bool.not_eq_false', Bool.not_not, decide_not, Bool.not_true, Bool.not_false] at h
      refine awp_skip ?_
      refine hK8 _ ?_
      refine awp_ops ?_
      simp (disch := omega) only [amL, amT, sA, sF, ↓reduceIte]
      refine hK5 (k+1) _ ?_ ?_ (le_mk ?_ ?_ ?_ ?_)
      all_goals (try simp (disch := omega) only [amL, sF, sG, ↓reduceIte])
      all_goals first | (unfold manyT; omega) | omega | (rw [truthsTo_yes h]; simp; done) | (rw [truthsTo_no h]; done) | (rw [truthsTo_yes h, List.map_append]; rfl) | (rw [truthsTo_yes h, List.length_append]; rfl)
  ·first
   | exact Bool.noConfusion h
   |skip
    try simp only [decide_eq_false_iff_not] at h
    refine awp_exit ?_
    refine hK3 _ ?_
    refine awp_seq_k fun K12 hK12 => ?_
    refine awp_ops ?_
    simp (disch := omega) only [amL, sA, sF, ↓reduceIte]
    refine hK12 _ ?_
    refine awp_ret ?_
    try simp (disch := omega) only [take_encL, amL, sF, ↓reduceIte]
    rw [show k = manyT a by unfold manyT; omega]; rfl
end AM.Try
end
/- The reference: the bounds of a day, whether the bond is kept. -/
section
namespace AM.Try
open Go AM AM.Duty
open Nat renaming reduceLT → sA, reduceAdd → sB, reduceMul → sC, reduceSub → sD, reduceLeDiff → sE, reduceEqDiff → sF, reduceBEq → sG
open Int renaming reduceAdd → sH, reduceSub → sI, reduceMul → sJ, reduceLT → sK, reduceLE → sL, reduceNeg → sM, reduceToNat → sN, reduceEq → sO
set_option maxHeartbeats 8000000
set_option maxRecDepth 100000
theorem encL_getD {l : List (List Int)} {k : Nat} (h : k < l.length) : (l.map encL).getD k [] = encL (l.getD k []) := getD_map _ _ _ h
def keptN (a : Acc) (l : List (List Int)) : Nat := (l.filter fun t => keepsS a.bond (debtsS a t []).1).length
def keptR (a : Acc) (l : List (List Int)) : Int := if keptN a l = l.length then 1 else if keptN a l = 0 then 2 else 3
theorem kept_yes {a : Acc} {l : List (List Int)} {k : Nat} (h : k < l.length) (hk : keepsS a.bond (debtsS a (l.getD k []) []).1 = true) : keptN a (l.take (k + 1)) = keptN a (l.take k) + 1 := by
  rw [keptN, List.take_add_one, List.filter_append]
  have : l[k]? = some (l.getD k []) := by rw [List.getD_eq_getElem?_getD, List.getElem?_eq_getElem h]; rfl
  rw [this]
  simp only [Option.toList_some, List.filter_cons, hk, if_true, List.filter_nil, List.length_append, List.length_cons, List.length_nil, Nat.zero_add]
  rfl
theorem kept_no {a : Acc} {l : List (List Int)} {k : Nat} (h : k < l.length) (hk : keepsS a.bond (debtsS a (l.getD k []) []).1 = false) : keptN a (l.take (k + 1)) = keptN a (l.take k) := by
  rw [keptN, List.take_add_one, List.filter_append]
  have : l[k]? = some (l.getD k []) := by rw [List.getD_eq_getElem?_getD, List.getElem?_eq_getElem h]; rfl
  rw [this]
  simp only [Option.toList_some, List.filter_cons, hk, Bool.false_eq_true, if_false, List.filter_nil, List.append_nil]
  rfl
theorem keptN_le (a : Acc) (l : List (List Int)) : keptN a l ≤ l.length := List.length_filter_le _ _
theorem c34 (a : Acc) (l : List (List Int)) (hf : faultS a = 0) (hl : l.length < 1000000) (hfit : ∀ k, k < l.length → Fit a (l.getD k [])) : PCall Go.Proofs.Try.prog 34 [avA a, .p (.sl (l.map encL))] (i64 (keptR a l)) := by
  refine pcall_mk (v := []) (q := []) (N := 35) (rs := [.tmp 4]) Go.Proofs.Try.func34 rfl rfl rfl rfl rfl ?_
  refine awp_seq_k fun K1 hK1 => ?_
  refine awp_ops ?_
  simp (disch := omega) only [amL, sA, sB, ↓reduceIte]
  refine hK1 _ ?_
  refine awp_seq_k fun K2 hK2 => ?_
  refine awp_ops ?_
  simp (disch := omega) only [amL, sA]
  refine hK2 _ ?_
  refine awp_seq_k fun K3 hK3 => ?_
  refine awp_seq_k fun K4 hK4 => ?_
  refine awp_ops ?_
  simp (disch := omega) only [amL, sA]
  refine hK4 _ ?_
  refine awp_block ?_
  skip
  refine awp_loop_k (α := Nat) (fun k => ⟨T [(1, .p (.sl (l.map encL))), (2, .ptr 2 0), (4, i64 0), (5, i64 (keptN a (l.take k) : Int)), (6, i64 k)], O [(2, .cells (cA a))]⟩) (fun k => l.length - k) (fun k => k ≤ l.length) 0 ?_ ?_ (fun k hx5 K5 hK5 => ?_)
  · simp
  · refine le_mk ?_ ?_ ?_ ?_ <;> (try simp (disch := omega) only [amL, sF, ↓reduceIte, reduceCtorEq]); all_goals rfl
  have hk := hx5; have hn := keptN_le a (l.take k); have hm : (l.take k).length ≤ k := by simp; omega
  refine awp_seq_k fun K6 hK6 => ?_
  refine awp_seq_k fun K7 hK7 => ?_
  refine awp_ops ?_
  simp (disch := omega) only [amL, amT, sA, sF, ↓reduceIte]
  refine hK7 _ ?_
  refine awp_cond rfl (fun h => ?_) (fun h => ?_)
  ·first
   | exact Bool.noConfusion h
   |skip
    try simp only [decide_eq_true_eq] at h
    refine awp_skip ?_
    refine hK6 _ ?_
    refine awp_seq_k fun K8 hK8 => ?_
    refine awp_block ?_
    refine awp_seq_k fun K9 hK9 => ?_
    refine awp_any2 (by kernel_rfl) (by kernel_rfl) ?_
    simp (disch := omega) only [encL_getD, amL, amT, sA, sB, sF, ↓reduceIte]
    repeat' first | (refine EC_intro (by kernel_rfl) rfl (PCall.of_nil 2 rfl (c27 a _ [] (hfit _ (by omega)) (by decide))) (by first | exact .inl rfl | exact .inr (.inl rfl)) ?_ ; simp (disch := omega) only [amL, sA, sF, ↓reduceIte])
    refine hK9 _ ?_
    refine awp_seq_k fun K10 hK10 => ?_
    refine awp_ops ?_
    simp (disch := omega) only [amL, amT, sA, sB, sF, ↓reduceIte]
    repeat' first | (refine EC_intro (by kernel_rfl) rfl (c74 a _ (debtsS_len hf _ [])) (by first | exact .inl rfl | exact .inr (.inl rfl)) ?_ ; simp (disch := omega) only [amL])
    refine hK10 _ ?_
    refine awp_cond rfl (fun h => ?_) (fun h => ?_)
    ·first
     | exact Bool.noConfusion h
     |skip
      try simp only [Bool.not_eq_true', decide_eq_true_eq, decide_eq_false_iff_not, Bool.and_eq_true, Bool.not_eq_false', Bool.not_not, decide_not, Bool.not_true, Bool.not_false] at h
      refine awp_ops ?_
      simp (disch := omega) only [amL, amT, sA, sF, ↓reduceIte]
      refine hK8 _ ?_
      refine awp_ops ?_
      simp (disch := omega) only [amL, amT, sA, sF, ↓reduceIte]
      refine hK5 (k+1) _ ?_ ?_ (le_mk ?_ ?_ ?_ ?_)
      all_goals (try simp (disch := omega) only [amL, sF, ↓reduceIte])
      all_goals first | omega | (rw [kept_yes (by omega) h]; rfl) | (rw [kept_no (by omega) h]) | (omega)
    ·first
     | exact Bool.noConfusion h
     |skip
      try simp only [Bool.not_eq_true', decide_eq_true_eq, decide_eq_false_iff_not, Bool.and_eq_true, Bool.not_eq_false', Bool.not_not, decide_not, Bool.not_true, Bool.not_false] at h
      refine awp_skip ?_
      refine hK8 _ ?_
      refine awp_ops ?_
      simp (disch := omega) only [amL, amT, sA, sF, ↓reduceIte]
      refine hK5 (k+1) _ ?_ ?_ (le_mk ?_ ?_ ?_ ?_)
      all_goals (try simp (disch := omega) only [amL, sF, ↓reduceIte])
      all_goals first | omega | (rw [kept_yes (by omega) h]; rfl) | (rw [kept_no (by omega) h]) | (omega)
  ·first
   | exact Bool.noConfusion h
   |skip
    try simp only [decide_eq_false_iff_not] at h
    refine awp_exit ?_
    refine hK3 _ ?_
    refine awp_seq_k fun K11 hK11 => ?_
    refine awp_seq_k fun K12 hK12 => ?_
    refine awp_ops ?_
    simp (disch := omega) only [amL, amT, sA, sF, ↓reduceIte]
    refine hK12 _ ?_
    refine awp_cond rfl (fun h => ?_) (fun h => ?_)
    ·first
     | exact Bool.noConfusion h
     |skip
      try simp only [decide_eq_true_eq] at h
      refine awp_seq_k fun K13 hK13 => ?_
      refine awp_ops ?_
      simp (disch := omega) only [amL, sA]
      refine hK13 _ ?_
      refine awp_ret ?_
      try simp (disch := omega) only [amL, ↓reduceIte]
      rw [List.take_of_length_le (by omega)] at *; unfold keptR; all_goals first | (rw [if_pos (by omega)]; done) | (rw [if_neg (by omega), if_pos (by omega)]; done) | (rw [if_neg (by omega), if_neg (by omega)])
    ·first
     | exact Bool.noConfusion h
     |skip
      try simp only [decide_eq_false_iff_not] at h
      refine awp_skip ?_
      refine hK11 _ ?_
      refine awp_seq_k fun K14 hK14 => ?_
      refine awp_seq_k fun K15 hK15 => ?_
      refine awp_ops ?_
      simp (disch := omega) only [amL, amT, sA, sF, ↓reduceIte]
      refine hK15 _ ?_
      refine awp_cond rfl (fun h => ?_) (fun h => ?_)
      ·first
       | exact Bool.noConfusion h
       |skip
        try simp only [decide_eq_true_eq] at h
        refine awp_seq_k fun K16 hK16 => ?_
        refine awp_ops ?_
        simp (disch := omega) only [amL, sA]
        refine hK16 _ ?_
        refine awp_ret ?_
        try simp (disch := omega) only [amL, ↓reduceIte]
        rw [List.take_of_length_le (by omega)] at *; unfold keptR; all_goals first | (rw [if_pos (by omega)]; done) | (rw [if_neg (by omega), if_pos (by omega)]; done) | (rw [if_neg (by omega), if_neg (by omega)])
      ·first
       | exact Bool.noConfusion h
       |skip
        try simp only [decide_eq_false_iff_not] at h
        refine awp_skip ?_
        refine hK14 _ ?_
        refine awp_seq_k fun K17 hK17 => ?_
        refine awp_ops ?_
        simp (disch := omega) only [amL, sA]
        refine hK17 _ ?_
        refine awp_ret ?_
        try simp (disch := omega) only [amL, ↓reduceIte]
        rw [List.take_of_length_le (by omega)] at *; unfold keptR; all_goals first | (rw [if_pos (by omega)]; done) | (rw [if_neg (by omega), if_pos (by omega)]; done) | (rw [if_neg (by omega), if_neg (by omega)])
end AM.Try
end
/- The reference: the bounds of a day. -/
section
namespace AM.Try
open Go AM AM.Duty
open Nat renaming reduceLT → sA, reduceAdd → sB, reduceMul → sC, reduceSub → sD, reduceLeDiff → sE, reduceEqDiff → sF, reduceBEq → sG
open Int renaming reduceAdd → sH, reduceSub → sI, reduceMul → sJ, reduceLT → sK, reduceLE → sL, reduceNeg → sM, reduceToNat → sN, reduceEq → sO
set_option maxHeartbeats 8000000
set_option maxRecDepth 100000
def debtOn (a : Acc) (day : Nat) (t : List Int) : Int := (debtsS a t []).1.getD day 0
def bndStep (a : Acc) (day : Nat) (p : Int × Int) (t : List Int) : Int × Int := (if debtOn a day t < p.1 then debtOn a day t else p.1, if p.2 < debtOn a day t then debtOn a day t else p.2)
def bndR (a : Acc) (day : Nat) (l : List (List Int)) : Int × Int := l.foldl (bndStep a day) (1099511627776, -1099511627776)
theorem bnd_take {a : Acc} {day : Nat} {l : List (List Int)} {k : Nat} (h : k < l.length) : bndR a day (l.take (k + 1)) = bndStep a day (bndR a day (l.take k)) (l.getD k []) := by
  rw [bndR, List.take_add_one, List.foldl_append]
  have : l[k]? = some (l.getD k []) := by rw [List.getD_eq_getElem?_getD, List.getElem?_eq_getElem h]; rfl
  rw [this]; rfl
theorem debts_full {a : Acc} (t : List Int) (paid : List Int) : (debtsS a t paid).1.length = (a.last + 1).toNat := by unfold debtsS; rw [debts_len]
theorem encI_getD2 {l : List Int} {k : Nat} (h : k < l.length) : (l.map fun n => [iv n]).getD k [] = [iv (l.getD k 0)] := isl_getD h
theorem c36 (a : Acc) (l : List (List Int)) (day : Nat) (_ : faultS a = 0) (hl : l.length < 1000000) (hd : (day : Int) ≤ a.last) (hfit : ∀ k, k < l.length → Fit a (l.getD k [])) : PCall Go.Proofs.Try.prog 36 [avA a, .p (.sl (l.map encL)), i64 day] (.agg [i64 (bndR a day l).1, i64 (bndR a day l).2]) := by
  refine pcall_mk (v := []) (q := []) (N := 43) (rs := [.cell 6 56]) Go.Proofs.Try.func36 rfl rfl rfl rfl rfl ?_
  refine awp_seq_k fun K1 hK1 => ?_
  refine awp_ops ?_
  simp (disch := omega) only [amL, amT, sA, sB, sF, ↓reduceIte]
  refine hK1 _ ?_
  refine awp_seq_k fun K2 hK2 => ?_
  refine awp_ops ?_
  simp (disch := omega) only [amL, amT, sA, sB, sE, sF, sM, ↓reduceIte]
  refine hK2 _ ?_
  refine awp_seq_k fun K3 hK3 => ?_
  refine awp_seq_k fun K4 hK4 => ?_
  refine awp_ops ?_
  simp (disch := omega) only [amL, sA, sM]
  refine hK4 _ ?_
  refine awp_block ?_
  skip
  refine awp_loop_k (α := Nat) (fun k => ⟨T [(1, .p (.sl (l.map encL))), (2, i64 (day : Int)), (3, .ptr 3 0), (6, .ptr 6 0), (7, .ptr 7 0), (8, i64 k)], O [(3, .cells (cA a)), (6, .cells [i64 0, i64 0]), (7, .cells [i64 (bndR a day (l.take k)).1, i64 (bndR a day (l.take k)).2])]⟩) (fun k => l.length - k) (fun k => k ≤ l.length) 0 ?_ ?_ (fun k hx5 K5 hK5 => ?_)
  · simp
  · refine le_mk ?_ ?_ ?_ ?_ <;> (try simp (disch := omega) only [amL, sF, sG, sM, ↓reduceIte, reduceCtorEq]); all_goals rfl
  have hk := hx5
  refine awp_seq_k fun K6 hK6 => ?_
  refine awp_seq_k fun K7 hK7 => ?_
  refine awp_ops ?_
  simp (disch := omega) only [amL, amT, sA, sF, ↓reduceIte]
  refine hK7 _ ?_
  refine awp_cond rfl (fun h => ?_) (fun h => ?_)
  ·first
   | exact Bool.noConfusion h
   |skip
    try simp only [decide_eq_true_eq] at h
    refine awp_skip ?_
    refine hK6 _ ?_
    refine awp_seq_k fun K8 hK8 => ?_
    refine awp_block ?_
    refine awp_seq_k fun K9 hK9 => ?_
    refine awp_any2 (by kernel_rfl) (by kernel_rfl) ?_
    simp (disch := omega) only [encL_getD, amL, amT, sA, sB, sF, ↓reduceIte]
    repeat' first | (refine EC_intro (by kernel_rfl) rfl (PCall.of_nil 2 rfl (c27 a _ [] (hfit _ (by omega)) (by decide))) (by first | exact .inl rfl | exact .inr (.inl rfl)) ?_ ; simp (disch := omega) only [amL, sA, sF, ↓reduceIte])
    refine hK9 _ ?_
    refine awp_any2 (by kernel_rfl) (by kernel_rfl) ?_
    have hdl := debts_full (a := a) (l.getD k []) []
    simp (disch := omega) only [amL, amT, sA, sB, sE, sF, ↓reduceIte, reduceCtorEq]
    refine hK8 _ ?_
    refine awp_ops ?_
    simp (disch := omega) only [amL, amT, sA, sF, ↓reduceIte]
    refine hK5 (k+1) _ ?_ ?_ (le_mk ?_ ?_ ?_ ?_)
    all_goals (try simp (disch := omega) only [amL, sF, sG, ↓reduceIte])
    all_goals first | omega | (rw [bnd_take (by omega)]; rfl)
  ·first
   | exact Bool.noConfusion h
   |skip
    try simp only [decide_eq_false_iff_not] at h
    refine awp_exit ?_
    refine hK3 _ ?_
    refine awp_seq_k fun K10 hK10 => ?_
    refine awp_ops ?_
    simp (disch := omega) only [amL, amT, sB, sF, ↓reduceIte]
    refine hK10 _ ?_
    refine awp_ret ?_
    try simp (disch := omega) only [amL, amT, sB, sF, ↓reduceIte]
    rw [List.take_of_length_le (by omega)]
end AM.Try
end
/- Plain laws: the program's truths are the reference's. -/
section
namespace AM.Try
open Go AM AM.Duty
open Nat renaming reduceLT → sA, reduceAdd → sB, reduceMul → sC, reduceSub → sD, reduceLeDiff → sE, reduceEqDiff → sF, reduceBEq → sG
open Int renaming reduceAdd → sH, reduceSub → sI, reduceMul → sJ, reduceLT → sK, reduceLE → sL, reduceNeg → sM, reduceToNat → sN, reduceEq → sO
theorem mem_listsN {f : Int → List (List Int)} {x : List Int} : ∀ {c : Nat} {n : Int}, x ∈ listsN f c n ↔ ∃ k : Nat, k < c ∧ x ∈ f (n + k)
  | 0, n => by simp [listsN]
  | c + 1, n => by
    simp only [listsN, List.mem_append, mem_listsN (c := c)]
    constructor
    · rintro (h | ⟨k, h1, h2⟩)
      · exact ⟨0, by omega, by simpa using h⟩
      · exact ⟨k + 1, by omega, by rw [show n + ((k + 1 : Nat) : Int) = n + 1 + k by omega]; exact h2⟩
    · rintro ⟨k, h1, h2⟩
      cases k with
      | zero => left; simpa using h2
      | succ k => right; exact ⟨k, by omega, by rw [show n + 1 + (k : Int) = n + ((k + 1 : Nat) : Int) by omega]; exact h2⟩
theorem mem_lists : ∀ {es : List Entry} {p x : List Int}, x ∈ listsP es p ↔ ∃ y, x = p ++ y ∧ listedP es y = true
  | [], p, x => by
    simp only [listsP, List.mem_singleton]
    constructor
    · rintro rfl; exact ⟨[], by simp, rfl⟩
    · rintro ⟨y, rfl, h⟩
      cases y with
      | nil => simp
      | cons u us => cases h
  | e :: es, p, x => by
    simp only [listsP, mem_listsN, mem_lists (es := es)]
    constructor
    · rintro ⟨k, h1, y, rfl, h2⟩
      refine ⟨(e.lo + k) :: y, by simp, ?_⟩
      simp only [listedP, inB, h2, Bool.and_true, Bool.and_eq_true, decide_eq_true_eq]
      omega
    · rintro ⟨y, rfl, h⟩
      cases y with
      | nil => cases h
      | cons u us =>
        simp only [listedP, inB, Bool.and_eq_true, decide_eq_true_eq] at h
        refine ⟨(u - e.lo).toNat, by omega, us, ?_, h.2⟩
        rw [show e.lo + ((u - e.lo).toNat : Int) = u by omega]
        simp
theorem nth_listed : ∀ {es : List Entry} {n : Int}, (∀ e ∈ es, e.lo ≤ e.hi) → listedP es (nthS es n) = true
  | [], _, _ => rfl
  | e :: es, n, h => by
    have h1 := h e (by simp)
    have h3 := nth_listed (es := es) (n := n / (e.hi - e.lo + 1)) fun x hx => h x (by simp [hx])
    simp only [nthS, listedP, h3, Bool.and_true, inB, Bool.and_eq_true, decide_eq_true_eq]
    have h2 := mod_bound (m := n) (s := e.hi - e.lo + 1) (by omega)
    omega
theorem listed_nth : ∀ {es : List Entry} {y : List Int}, (∀ e ∈ es, e.lo ≤ e.hi) → listedP es y = true → ∃ n : Nat, n < many es ∧ nthS es n = y
  | [], [], _, _ => ⟨0, by simp [many], rfl⟩
  | [], _ :: _, _, h => by cases h
  | _ :: _, [], _, h => by cases h
  | e :: es, u :: us, hlo, h => by
    simp only [listedP, inB, Bool.and_eq_true, decide_eq_true_eq] at h
    obtain ⟨n, h1, h2⟩ := listed_nth (fun x hx => hlo x (by simp [hx])) h.2
    have hs : ((e.hi - e.lo + 1).toNat : Int) = e.hi - e.lo + 1 := Int.toNat_of_nonneg (by omega)
    generalize hS : (e.hi - e.lo + 1).toNat = s at hs
    have ha : (u - e.lo).toNat < s := by omega
    have hu : ((u - e.lo).toNat : Int) = u - e.lo := Int.toNat_of_nonneg (by omega)
    generalize (u - e.lo).toNat = w at ha hu
    refine ⟨w + s * n, ?_, ?_⟩
    · show _ < (e.hi - e.lo + 1).toNat * many es
      rw [hS]
      have : s * (n + 1) ≤ s * many es := Nat.mul_le_mul_left _ h1
      rw [Nat.mul_add] at this; omega
    · simp only [nthS]
      rw [← hs]
      have e1 : ((w + s * n : Nat) : Int) % (s : Int) = w := by
        rw [← Int.natCast_emod, Nat.add_mul_mod_self_left, Nat.mod_eq_of_lt ha]
      have e2 : ((w + s * n : Nat) : Int) / (s : Int) = n := by
        rw [← Int.natCast_ediv, Nat.add_mul_div_left _ _ (by omega), Nat.div_eq_of_lt ha, Nat.zero_add]
      rw [e1, e2, h2, hu, show e.lo + (u - e.lo) = u by omega]
theorem lo_le {a : Acc} (hf : faultS a = 0) : ∀ e ∈ a.entries, e.lo ≤ e.hi := fun e he => (isEntry_small (List.all_eq_true.1 (fault_zero hf).2.2.2.2.1 e he)).2.1
theorem many_T {a : Acc} (hf : faultS a = 0) : manyT a = many a.entries := by
  have h := sizes_many a.entries 1 (fun e he => by have := lo_le hf e he; omega)
  unfold manyT sizes; rw [h]; omega
theorem mem_truths {a : Acc} (hf : faultS a = 0) {x : List Int} : x ∈ truthsL a ↔ x ∈ truthsR a := by
  unfold truthsL truthsR truthsTo
  rw [List.mem_filter, List.mem_filter, (playS_ask hf x).1, mem_lists, List.mem_map]
  refine and_congr ?_ Iff.rfl
  constructor
  · rintro ⟨y, rfl, h⟩
    obtain ⟨n, h1, h2⟩ := listed_nth (lo_le hf) h
    exact ⟨n, List.mem_range.2 (by rw [many_T hf]; exact h1), by simpa [nthT] using h2⟩
  · rintro ⟨n, _, rfl⟩
    exact ⟨nthT a n, by simp, nth_listed (lo_le hf)⟩
theorem possible_eq {a : Acc} : possibleS a = !(truthsR a).isEmpty := by
  unfold truthsR truthsTo possibleS
  rw [Bool.eq_iff_iff, List.any_eq_true, Bool.not_eq_true', List.isEmpty_eq_false_iff]
  constructor
  · rintro ⟨k, h1, h2⟩ h
    have : nthT a k ∈ ((List.range (manyT a)).map (nthT a)).filter (isTruth a) := List.mem_filter.2 ⟨List.mem_map.2 ⟨k, h1, rfl⟩, h2⟩
    rw [h] at this; cases this
  · intro h
    obtain ⟨x, hx⟩ := List.exists_mem_of_ne_nil _ h
    obtain ⟨h1, h2⟩ := List.mem_filter.1 hx
    obtain ⟨k, h3, rfl⟩ := List.mem_map.1 h1
    exact ⟨k, h3, h2⟩
theorem truths_empty {a : Acc} (hf : faultS a = 0) : (truthsL a).isEmpty = (truthsR a).isEmpty := by
  rw [Bool.eq_iff_iff, List.isEmpty_iff, List.isEmpty_iff]
  constructor <;> intro h <;> refine List.eq_nil_iff_forall_not_mem.2 fun x hx => ?_
  · have := (mem_truths hf).2 hx; rw [h] at this; cases this
  · have := (mem_truths hf).1 hx; rw [h] at this; cases this
end AM.Try
end
/- Plain laws: bounds and whether the bond is kept, of the same truths. -/
section
namespace AM.Try
open Go AM AM.Duty
open Nat renaming reduceLT → sA, reduceAdd → sB, reduceMul → sC, reduceSub → sD, reduceLeDiff → sE, reduceEqDiff → sF, reduceBEq → sG
open Int renaming reduceAdd → sH, reduceSub → sI, reduceMul → sJ, reduceLT → sK, reduceLE → sL, reduceNeg → sM, reduceToNat → sN, reduceEq → sO
theorem min_spec : ∀ (ds : List Int) (x : Int), (ds.foldl min x = x ∨ ds.foldl min x ∈ ds) ∧ ds.foldl min x ≤ x ∧ ∀ d ∈ ds, ds.foldl min x ≤ d
  | [], x => ⟨.inl rfl, Int.le_refl _, fun d h => by cases h⟩
  | d :: ds, x => by
    obtain ⟨h1, h2, h3⟩ := min_spec ds (min x d)
    simp only [List.foldl_cons]
    generalize ds.foldl min (min x d) = m at *
    refine ⟨?_, by omega, fun y hy => ?_⟩
    · rcases h1 with h | h
      · by_cases e : x ≤ d
        · left; omega
        · right; rw [h, show min x d = d by omega]; simp
      · right; simp [h]
    · rcases List.mem_cons.1 hy with rfl | hy
      · omega
      · exact h3 y hy
theorem max_spec : ∀ (ds : List Int) (x : Int), (ds.foldl max x = x ∨ ds.foldl max x ∈ ds) ∧ x ≤ ds.foldl max x ∧ ∀ d ∈ ds, d ≤ ds.foldl max x
  | [], x => ⟨.inl rfl, Int.le_refl _, fun d h => by cases h⟩
  | d :: ds, x => by
    obtain ⟨h1, h2, h3⟩ := max_spec ds (max x d)
    simp only [List.foldl_cons]
    generalize ds.foldl max (max x d) = m at *
    refine ⟨?_, by omega, fun y hy => ?_⟩
    · rcases h1 with h | h
      · by_cases e : d ≤ x
        · left; omega
        · right; rw [h, show max x d = d by omega]; simp
      · right; simp [h]
    · rcases List.mem_cons.1 hy with rfl | hy
      · omega
      · exact h3 y hy
theorem bnd_fold {a : Acc} {day : Nat} : ∀ (l : List (List Int)) (x y : Int), l.foldl (bndStep a day) (x, y) = ((l.map (debtOn a day)).foldl min x, (l.map (debtOn a day)).foldl max y)
  | [], _, _ => rfl
  | t :: l, x, y => by
    have e : bndStep a day (x, y) t = (min x (debtOn a day t), max y (debtOn a day t)) := by
      simp only [bndStep, Prod.mk.injEq]
      constructor <;> split <;> omega
    simp only [List.foldl_cons, List.map_cons, e]
    exact bnd_fold l _ _
theorem zip_getD {f : Int → Int → Int} {x y : List Int} {k : Nat} (hx : k < x.length) (hy : k < y.length) : (List.zipWith f x y).getD k 0 = f (x.getD k 0) (y.getD k 0) := by
  simp only [List.getD_eq_getElem?_getD, List.getElem?_zipWith, List.getElem?_eq_getElem hx, List.getElem?_eq_getElem hy, Option.getD_some]
theorem pad_getD {l : List Int} {k : Nat} (h : k < l.length) : (pad l).getD k 0 = l.getD k 0 := by
  unfold pad; rw [List.getD_eq_getElem?_getD, List.getElem?_append_left h, List.getD_eq_getElem?_getD]
theorem fold_on {a : Acc} {k : Nat} (hk : k < 12) (g : List Int → Int) : ∀ (l : List (List Int)) (s : B30), s.first = false → s.lo.length = 12 → s.hi.length = 12 → (∀ t ∈ l, (pad (playS a t [] true).1).length = 12 ∧ (pad (playS a t [] true).1).getD k 0 = g t) →
    ((fold30 a s l).lo.getD k 0, (fold30 a s l).hi.getD k 0) = ((l.map g).foldl min (s.lo.getD k 0), (l.map g).foldl max (s.hi.getD k 0))
  | [], s, _, _, _, _ => rfl
  | t :: l, s, hf, h1, h2, h => by
    obtain ⟨h3, h4⟩ := h t (by simp)
    show ((fold30 a (bst30 s (pad (playS a t [] true).1)) l).lo.getD k 0, (fold30 a (bst30 s (pad (playS a t [] true).1)) l).hi.getD k 0) = _
    have e1 : (bst30 s (pad (playS a t [] true).1)).lo = List.zipWith min s.lo (pad (playS a t [] true).1) := by simp [bst30, hf]
    have e2 : (bst30 s (pad (playS a t [] true).1)).hi = List.zipWith max s.hi (pad (playS a t [] true).1) := by simp [bst30, hf]
    have := fold_on hk g l (bst30 s (pad (playS a t [] true).1)) rfl (by rw [e1]; simp [h1, h3]) (by rw [e2]; simp [h2, h3]) fun x hx => h x (by simp [hx])
    rw [e1, e2, zip_getD (by omega) (by omega), zip_getD (by omega) (by omega), h4] at this
    simpa using this
theorem truth_debt {a : Acc} (hf : faultS a = 0) {t : List Int} (ht : t ∈ truthsL a) : (playS a t [] true).1 = (debtsS a t []).1 := by
  have h := (List.mem_filter.1 ht).2
  have h1 := playS_ask hf t
  rw [h1.1] at h
  exact h1.2 h
theorem last_in {a : Acc} (hf : faultS a = 0) : 0 ≤ a.last ∧ a.last ≤ 11 := by
  obtain ⟨_, _, z3, _, _, _⟩ := fault_zero hf
  simp only [inB, Bool.and_eq_true, decide_eq_true_eq] at z3
  omega
theorem debt_pad {a : Acc} (hf : faultS a = 0) {t : List Int} (ht : t ∈ truthsL a) {k : Nat} (hk : k < (a.last + 1).toNat) : (pad (playS a t [] true).1).length = 12 ∧ (pad (playS a t [] true).1).getD k 0 = debtOn a k t := by
  have h1 := last_in hf
  have e := truth_debt hf ht
  have hl := debts_full (a := a) t []
  rw [e]
  refine ⟨pad_len (by omega), ?_⟩
  rw [pad_getD (by omega)]; rfl
theorem debt_small {a : Acc} (hf : faultS a = 0) {t : List Int} (ht : t ∈ truthsL a) {k : Nat} (hk : k < (a.last + 1).toNat) : -100000000000 ≤ debtOn a k t ∧ debtOn a k t ≤ 100000000000 := by
  have h := playS_in (paid := []) (ask := true) (truth_fit hf ht)
  rw [truth_debt hf ht] at h
  have hl := debts_full (a := a) t []
  refine h _ ?_
  unfold debtOn
  rw [← List.getElem_eq_getD (h := by omega)]
  exact List.getElem_mem _
theorem bounds_eq {a : Acc} (hf : faultS a = 0) (hne : (truthsL a).isEmpty = false) {k : Nat} (hk : k < (a.last + 1).toNat) :
    ((fold30 a ⟨true, z12, z12⟩ (truthsL a)).lo.getD k 0, (fold30 a ⟨true, z12, z12⟩ (truthsL a)).hi.getD k 0) = bndR a k (truthsR a) := by
  have hl := last_in hf
  have hmem : ∀ x, x ∈ truthsL a ↔ x ∈ truthsR a := fun x => mem_truths hf
  have hsm : ∀ t ∈ truthsL a, -100000000000 ≤ debtOn a k t ∧ debtOn a k t ≤ 100000000000 := fun t ht => debt_small hf ht hk
  have hpd : ∀ t ∈ truthsL a, (pad (playS a t [] true).1).length = 12 ∧ (pad (playS a t [] true).1).getD k 0 = debtOn a k t := fun t ht => debt_pad hf ht hk
  generalize truthsR a = R at hmem
  generalize truthsL a = L at hmem hsm hpd hne
  cases L with
  | nil => cases hne
  | cons t l =>
    obtain ⟨h3, h4⟩ := hpd t (by simp)
    have e0 : fold30 a ⟨true, z12, z12⟩ (t :: l) = fold30 a ⟨false, pad (playS a t [] true).1, pad (playS a t [] true).1⟩ l := by
      show fold30 a (bst30 ⟨true, z12, z12⟩ (pad (playS a t [] true).1)) l = _
      congr 1
      simp only [bst30, if_true, B30.mk.injEq, true_and]
      refine ⟨?_, ?_⟩ <;> (refine List.ext_getElem? fun i => ?_; rw [List.getElem?_zipWith]; cases (pad (playS a t [] true).1)[i]? <;> simp)
    rw [e0, fold_on (by omega) (debtOn a k) l _ rfl h3 h3 (fun x hx => hpd x (by simp [hx])), h4]
    unfold bndR; rw [bnd_fold]
    obtain ⟨a1, a2, a3⟩ := min_spec (l.map (debtOn a k)) (debtOn a k t)
    obtain ⟨b1, b2, b3⟩ := max_spec (l.map (debtOn a k)) (debtOn a k t)
    obtain ⟨c1, c2, c3⟩ := min_spec (R.map (debtOn a k)) 1099511627776
    obtain ⟨d1, d2, d3⟩ := max_spec (R.map (debtOn a k)) (-1099511627776)
    generalize (l.map (debtOn a k)).foldl min (debtOn a k t) = m1 at *
    generalize (l.map (debtOn a k)).foldl max (debtOn a k t) = m2 at *
    generalize (R.map (debtOn a k)).foldl min 1099511627776 = m3 at *
    generalize (R.map (debtOn a k)).foldl max (-1099511627776) = m4 at *
    have inL : ∀ x, x ∈ l.map (debtOn a k) ∨ x = debtOn a k t → x ∈ R.map (debtOn a k) := fun x hx => by
      rcases hx with hx | rfl
      · obtain ⟨y, hy, rfl⟩ := List.mem_map.1 hx
        exact List.mem_map_of_mem ((hmem y).1 (by simp [hy]))
      · exact List.mem_map_of_mem ((hmem t).1 (by simp))
    have inR' : ∀ x, x ∈ R.map (debtOn a k) → m1 ≤ x ∧ x ≤ m2 ∧ -100000000000 ≤ x ∧ x ≤ 100000000000 := fun x hx => by
      obtain ⟨y, hy, rfl⟩ := List.mem_map.1 hx
      have hy := (hmem y).2 hy
      have hs := hsm y hy
      rcases List.mem_cons.1 hy with rfl | hy
      · exact ⟨a2, b2, hs⟩
      · exact ⟨a3 _ (List.mem_map_of_mem hy), b3 _ (List.mem_map_of_mem hy), hs⟩
    have g1 := inL m1 (a1.symm)
    have g2 := inL m2 (b1.symm)
    have k1 := inR' m1 g1
    have k2 := inR' m2 g2
    have l1 := c3 m1 g1
    have l2 := d3 m2 g2
    have l3 : m1 ≤ m3 := by
      rcases c1 with h | h
      · omega
      · exact (inR' m3 h).1
    have l4 : m4 ≤ m2 := by
      rcases d1 with h | h
      · omega
      · exact (inR' m4 h).2.1
    simp only [Prod.mk.injEq]
    omega
end AM.Try
end
/- Plain laws: whether the bond is kept. -/
section
namespace AM.Try
open Go AM AM.Duty
open Nat renaming reduceLT → sA, reduceAdd → sB, reduceMul → sC, reduceSub → sD, reduceLeDiff → sE, reduceEqDiff → sF, reduceBEq → sG
open Int renaming reduceAdd → sH, reduceSub → sI, reduceMul → sJ, reduceLT → sK, reduceLE → sL, reduceNeg → sM, reduceToNat → sN, reduceEq → sO
theorem keep_eq {a : Acc} (hf : faultS a = 0) {t : List Int} (ht : t ∈ truthsL a) : keepsP a (pad (playS a t [] true).1) = keepsS a.bond (debtsS a t []).1 := by
  rw [truth_debt hf ht]
  unfold keepsP keepsS
  rw [pad_take2 (debts_full t [])]
theorem fold31_eq {a : Acc} (K : List Int → Bool) : ∀ (l : List (List Int)) (s : Bool × Bool), (∀ t ∈ l, keepsP a (pad (playS a t [] true).1) = K t) → fold31 a s l = (s.1 || l.any K, s.2 || l.any fun t => !K t)
  | [], s, _ => by simp [fold31]
  | t :: l, s, h => by
    show fold31 a (bst31 a s t).1 l = _
    rw [fold31_eq K l _ fun x hx => h x (by simp [hx])]
    simp only [bst31, h t (by simp), List.any_cons, Bool.or_assoc]
theorem any_mem {α : Type} {l r : List α} {p : α → Bool} (h : ∀ x, x ∈ l ↔ x ∈ r) : l.any p = r.any p := by
  rw [Bool.eq_iff_iff, List.any_eq_true, List.any_eq_true]
  constructor <;> rintro ⟨x, h1, h2⟩
  · exact ⟨x, (h x).1 h1, h2⟩
  · exact ⟨x, (h x).2 h1, h2⟩
theorem keptN_all {a : Acc} {l : List (List Int)} : keptN a l = l.length ↔ (l.any fun t => !keepsS a.bond (debtsS a t []).1) = false := by
  unfold keptN
  rw [List.length_filter_eq_length_iff, List.any_eq_false]
  simp
theorem keptN_none {a : Acc} {l : List (List Int)} : keptN a l = 0 ↔ (l.any fun t => keepsS a.bond (debtsS a t []).1) = false := by
  unfold keptN
  rw [List.length_eq_zero_iff, List.filter_eq_nil_iff, List.any_eq_false]
theorem kept_eq {a : Acc} (hf : faultS a = 0) : keptA a = if (truthsR a).isEmpty = true then .tup [i64 0, i64 9] else .tup [i64 (keptR a (truthsR a)), i64 0] := by
  unfold keptA
  rw [if_pos hf, fold31_eq (fun t => keepsS a.bond (debtsS a t []).1) _ _ fun t ht => keep_eq hf ht]
  rw [any_mem fun x => mem_truths hf, any_mem (p := fun t => !keepsS a.bond (debtsS a t []).1) fun x => mem_truths hf]
  simp only [Bool.false_or]
  unfold keptR
  simp only [keptN_all, keptN_none]
  cases hR : truthsR a with
  | nil => rfl
  | cons t l =>
    simp only [List.isEmpty_cons, Bool.false_eq_true, if_false]
    cases h1 : (t :: l).any fun t => keepsS a.bond (debtsS a t []).1 <;> cases h2 : (t :: l).any fun t => !keepsS a.bond (debtsS a t []).1
    · exfalso
      rw [List.any_eq_false] at h1 h2
      have g1 := h1 t (by simp)
      have g2 := h2 t (by simp)
      simp at g1 g2
      rw [g1] at g2; cases g2
    · rfl
    · rfl
    · rfl
theorem boundsA_eq {a : Acc} (hf : faultS a = 0) : boundsA a = if (truthsR a).isEmpty = true then .tup [.p (.val (.slice none 0 0)), i64 9] else .tup [.p (.sl ((List.range (a.last + 1).toNat).map fun k => [iv (bndR a k (truthsR a)).1, iv (bndR a k (truthsR a)).2])), i64 0] := by
  unfold boundsA
  rw [if_pos hf, truths_empty hf]
  split
  · rfl
  · rename_i h
    have hne : (truthsL a).isEmpty = false := by rw [truths_empty hf]; simpa using h
    have e : (boundsL a).map (fun p => [iv p.1, iv p.2]) = (List.range (a.last + 1).toNat).map fun k => [iv (bndR a k (truthsR a)).1, iv (bndR a k (truthsR a)).2] := by
      unfold boundsL
      rw [List.map_map]
      refine List.map_congr_left fun k hk => ?_
      rw [← bounds_eq hf hne (List.mem_range.1 hk)]; rfl
    rw [e]
end AM.Try
end
/- The law of bounds. -/
section
namespace AM.Try
open Go AM AM.Duty
open Nat renaming reduceLT → sA, reduceAdd → sB, reduceMul → sC, reduceSub → sD, reduceLeDiff → sE, reduceEqDiff → sF, reduceBEq → sG
open Int renaming reduceAdd → sH, reduceSub → sI, reduceMul → sJ, reduceLT → sK, reduceLE → sL, reduceNeg → sM, reduceToNat → sN, reduceEq → sO
set_option maxHeartbeats 8000000
set_option maxRecDepth 100000
abbrev bndE (a : Acc) : List (List PV) := (List.range (a.last + 1).toNat).map fun k => [iv (bndR a k (truthsR a)).1, iv (bndR a k (truthsR a)).2]
theorem bndE_getD {a : Acc} {k : Nat} (h : k < (a.last + 1).toNat) : (bndE a).getD k [] = [iv (bndR a k (truthsR a)).1, iv (bndR a k (truthsR a)).2] := by
  simp only [bndE, List.getD_eq_getElem?_getD, List.getElem?_map, List.getElem?_range h, Option.map_some, Option.getD_some]
theorem bA4 (a : Acc) : boundsA a = if faultS a = 0 then if (truthsR a).isEmpty = true then .tup [.p (.val (.slice none 0 0)), i64 9] else .tup [.p (.sl (bndE a)), i64 0] else .tup [.p (.val (.slice none 0 0)), i64 (faultS a)] := by
  by_cases hf : faultS a = 0
  · rw [boundsA_eq hf, if_pos hf]
  · unfold boundsA; rw [if_neg hf, if_neg hf]
theorem kA4 (a : Acc) : keptA a = if faultS a = 0 then if (truthsR a).isEmpty = true then .tup [i64 0, i64 9] else .tup [i64 (keptR a (truthsR a)), i64 0] else .tup [i64 0, i64 (faultS a)] := by
  by_cases hf : faultS a = 0
  · rw [kept_eq hf, if_pos hf]
  · unfold keptA; rw [if_neg hf, if_neg hf]
theorem sA4 (a : Acc) : sureS a = if faultS a = 0 then if (truthsR a).isEmpty = true then 9 else 0 else faultS a := by
  unfold sureS
  rw [possible_eq]
  split
  · cases (truthsR a).isEmpty <;> rfl
  · rfl
theorem fitR {a : Acc} (hf : faultS a = 0) : ∀ k, k < (truthsR a).length → Fit a ((truthsR a).getD k []) := fun k hk => by
  have h : (truthsR a).getD k [] ∈ truthsR a := by rw [← List.getElem_eq_getD (h := hk)]; exact List.getElem_mem _
  obtain ⟨n, _, e⟩ := List.mem_map.1 (List.mem_filter.1 h).1
  rw [← e]; exact fit_nth hf _
theorem lenR {a : Acc} (hf : faultS a = 0) : (truthsR a).length < 1000000 := by
  have h1 := truthsTo_len a (manyT a)
  have h2 := sizes_nat hf
  unfold truthsR; unfold manyT at *; omega
theorem bndR_in {a : Acc} (hf : faultS a = 0) {k : Nat} (hk : k < (a.last + 1).toNat) : inR (bndR a k (truthsR a)).1 = true ∧ inR (bndR a k (truthsR a)).2 = true := by
  have hs : ∀ x ∈ (truthsR a).map (debtOn a k), -100000000000 ≤ x ∧ x ≤ 100000000000 := fun x hx => by
    obtain ⟨t, ht, rfl⟩ := List.mem_map.1 hx
    exact debt_small hf ((mem_truths hf).2 ht) hk
  unfold bndR; rw [bnd_fold]
  obtain ⟨c1, c2, c3⟩ := min_spec ((truthsR a).map (debtOn a k)) 1099511627776
  obtain ⟨d1, d2, d3⟩ := max_spec ((truthsR a).map (debtOn a k)) (-1099511627776)
  simp only [inR, Bool.and_eq_true, decide_eq_true_eq]
  refine ⟨?_, ?_⟩
  · rcases c1 with h | h
    · omega
    · have := hs _ h; omega
  · rcases d1 with h | h
    · omega
    · have := hs _ h; omega
theorem ne54 {x y : Int} (hx : inR x = true) (hy : inR y = true) : aggEq Go.Proofs.Try.prog .neq 54 (some [x, y]) (some [x, y]) = some (.pure (bl false)) := by
  rw [aggEq_neq (a := [x, y]) (b := [x, y]) ints54 rfl (by simp [hx, hy]) (by simp [hx, hy])]; simp
theorem c4 (a : Acc) (hin : AccIn a) : PCall Go.Proofs.Try.prog 4 [avA a] (bl true) := by
  refine pcall_mk (v := []) (q := []) (N := 90) (rs := [.tmp 2]) Go.Proofs.Try.func4 rfl rfl rfl rfl rfl ?_
  have bA := bA4 a
  have kA := kA4 a
  have sE := sA4 a
  have hin' := in_of hin
  cases hw : fewS a 300 <;> by_cases hf : faultS a = 0 <;> cases hp : (truthsR a).isEmpty
  all_goals
    try (have ht : thinS a = true := by
          unfold fewS at hw
          simp only [Bool.and_eq_true] at hw
          exact hw.1
         obtain ⟨hl1, hl2⟩ := thin_len ht)
    try (have hla := last_in hf
         have hm : ((a.last + 1).toNat : Int) = a.last + 1 := Int.toNat_of_nonneg (by omega))
  all_goals
    refine awp_seq_k fun K1 hK1 => ?_
    refine awp_ops ?_
    simp (disch := omega) only [amL, sA, ↓reduceIte]
    refine hK1 _ ?_
    refine awp_seq_k fun K2 hK2 => ?_
    refine awp_seq_k fun K3 hK3 => ?_
    refine awp_ops ?_
    simp (disch := omega) only [amL, amT, sA, sB, sF, ↓reduceIte]
    repeat' first | (refine EC_intro (by kernel_rfl) rfl (c29 a 300) (by first | exact .inl rfl | exact .inr (.inl rfl)) ?_ ; simp (disch := omega) only [hw, amL, sA, ↓reduceIte])
    refine hK3 _ ?_
    refine awp_cond rfl (fun h => ?_) (fun h => ?_)
    ·first
     | exact Bool.noConfusion h
     |skip
      try simp only [] at h
      refine awp_seq_k fun K4 hK4 => ?_
      refine awp_ops ?_
      simp (disch := omega) only [amL]
      repeat' first | (refine EC_intro (by kernel_rfl) rfl (c20) (by first | exact .inl rfl | exact .inr (.inl rfl)) ?_ ; simp (disch := omega) only [amL, sA, ↓reduceIte])
      refine hK4 _ ?_
      refine awp_ret ?_
      try simp (disch := omega) only [amL, ↓reduceIte]
      all_goals first | rfl | (omega)
    ·first
     | exact Bool.noConfusion h
     |skip
      try simp only [] at h
      refine awp_skip ?_
      refine hK2 _ ?_
      refine awp_seq_k fun K5 hK5 => ?_
      refine awp_ops ?_
      simp (disch := omega) only [amL, amT, sA, sB, sF, ↓reduceIte]
      repeat' first | (refine EC_intro (by kernel_rfl) rfl (c22 a (by omega) (by omega)) (by first | exact .inl rfl | exact .inr (.inl rfl)) ?_ ; simp (disch := omega) only [amL, ↓reduceIte]) | (refine EC_intro (by kernel_rfl) rfl (c30 a (by omega) (by omega) hin') (by first | exact .inl rfl | exact .inr (.inl rfl)) ?_ ; simp (disch := omega) only [bA, hf, hp, amL, sA, sF, ↓reduceIte])
      refine hK5 _ ?_
      refine awp_seq_k fun K6 hK6 => ?_
      refine awp_ops ?_
      simp (disch := omega) only [amL, amT, sA, sB, sF, ↓reduceIte]
      repeat' first | (refine EC_intro (by kernel_rfl) rfl (c22 a (by omega) (by omega)) (by first | exact .inl rfl | exact .inr (.inl rfl)) ?_ ; simp (disch := omega) only [amL, ↓reduceIte]) | (refine EC_intro (by kernel_rfl) rfl (c31 a (by omega) (by omega) hin') (by first | exact .inl rfl | exact .inr (.inl rfl)) ?_ ; simp (disch := omega) only [kA, hf, hp, amL, sA, sF, ↓reduceIte])
      refine hK6 _ ?_
      refine awp_seq_k fun K7 hK7 => ?_
      refine awp_seq_k fun K8 hK8 => ?_
      refine awp_ops ?_
      simp (disch := omega) only [amL, amT, sA, sB, sF, ↓reduceIte]
      repeat' first | (refine EC_intro (by kernel_rfl) rfl (c32 a (by omega) (by omega)) (by first | exact .inl rfl | exact .inr (.inl rfl)) ?_ ; simp (disch := omega) only [hf, hp, amL, sA, sE, ↓reduceIte])
      refine hK8 _ ?_
      refine awp_seq_k fun K9 hK9 => ?_
      refine awp_ops ?_
      simp (disch := omega) only [hf, ne_eq, amL, amT, sA, sO, ↓reduceIte]
      refine hK9 _ ?_
      refine awp_cond rfl (fun h => ?_) (fun h => ?_)
      ·first
       | exact Bool.noConfusion h
       |skip
        try simp only [] at h
        refine awp_seq_k fun K10 hK10 => ?_
        refine awp_ops ?_
        simp (disch := omega) only [amL, amT, sA, sF, ↓reduceIte]
        repeat' first | (refine EG_dec (fun h => ?_) (fun h => ?_) <;> simp (disch := omega) only [h, bA, kA, sE, hw, hf, hp, ne_eq, amL, amT, sA, sB, sC, sD, sE, sF, sG, sH, sI, sJ, sK, sL, sM, sN, sO, ↓reduceIte, reduceCtorEq]) | (refine EG_cases (fun h => ?_) (fun h => ?_) <;> simp (disch := omega) only [h, bA, kA, sE, hw, hf, hp, ne_eq, amL, amT, sA, sB, sC, sD, sE, sF, sG, sH, sI, sJ, sK, sL, sM, sN, sO, ↓reduceIte, reduceCtorEq]) | (refine EC_intro (by kernel_rfl) rfl (c20) (by first | exact .inl rfl | exact .inr (.inl rfl)) ?_ ; simp (disch := omega) only [amL, sA, sF, ↓reduceIte])
        all_goals
         skip
         refine hK10 _ ?_
         refine awp_ret ?_
         try simp (disch := omega) only [amL, ↓reduceIte]
         all_goals first | rfl | (omega)
      ·first
       | exact Bool.noConfusion h
       |skip
        try simp only [] at h
        refine awp_skip ?_
        refine hK7 _ ?_
        refine awp_seq_k fun K11 hK11 => ?_
        refine awp_ops ?_
        simp (disch := omega) only [amL, amT, sA, sB, sF, ↓reduceIte]
        repeat' first | (refine EC_intro (by kernel_rfl) rfl (c33 a hf) (by first | exact .inl rfl | exact .inr (.inl rfl)) ?_ ; simp (disch := omega) only [amL, sA, ↓reduceIte])
        refine hK11 _ ?_
        refine awp_seq_k fun K12 hK12 => ?_
        refine awp_seq_k fun K13 hK13 => ?_
        refine awp_ops ?_
        simp (disch := omega) only [List.length_map, List.length_range, hm, ne_eq, amL, amT, sA, sB, sF, ↓reduceIte, reduceCtorEq]
        repeat' first | (refine EG_dec (fun h => ?_) (fun h => ?_) <;> simp (disch := omega) only [h, List.length_map, List.length_range, hm, bA, kA, sE, hw, hf, hp, ne_eq, amL, amT, sA, sB, sC, sD, sE, sF, sG, sH, sI, sJ, sK, sL, sM, sN, sO, ↓reduceIte, reduceCtorEq]) | (refine EG_cases (fun h => ?_) (fun h => ?_) <;> simp (disch := omega) only [h, List.length_map, List.length_range, hm, bA, kA, sE, hw, hf, hp, ne_eq, amL, amT, sA, sB, sC, sD, sE, sF, sG, sH, sI, sJ, sK, sL, sM, sN, sO, ↓reduceIte, reduceCtorEq]) | (refine EC_intro (by kernel_rfl) rfl (c34 a (truthsR a) hf (lenR hf) (fitR hf)) (by first | exact .inl rfl | exact .inr (.inl rfl)) ?_ ; simp (disch := omega) only [ne_eq, amL, amT, sA, sF, ↓reduceIte])
        all_goals
         skip
         refine hK13 _ ?_
         refine awp_cond rfl (fun h => ?_) (fun h => ?_)
         ·first
          | exact Bool.noConfusion h
          |skip
           try simp only [Bool.not_eq_true', decide_eq_true_eq, decide_eq_false_iff_not, Bool.and_eq_true, Bool.not_eq_false', Bool.not_not, decide_not, Bool.not_true, Bool.not_false] at h
           refine awp_seq_k fun K14 hK14 => ?_
           refine awp_ops ?_
           simp (disch := omega) only [bA, kA, sE, hw, hf, hp, ne_eq, amL, amT, sA, sB, sC, sD, sE, sF, sG, sH, sI, sJ, sK, sL, sM, sN, sO, ↓reduceIte, reduceCtorEq]
           refine hK14 _ ?_
           refine awp_ret ?_
           try simp (disch := omega) only [bA, kA, sE, hw, hf, hp, ne_eq, amL, amT, sA, sB, sC, sD, sE, sF, sG, sH, sI, sJ, sK, sL, sM, sN, sO, ↓reduceIte, reduceCtorEq]
           all_goals first | rfl | (omega)
         ·first
          | exact Bool.noConfusion h
          |skip
           try simp only [] at h
           refine awp_skip ?_
           refine hK12 _ ?_
           refine awp_seq_k fun K15 hK15 => ?_
           refine awp_seq_k fun K16 hK16 => ?_
           refine awp_ops ?_
           simp (disch := omega) only [amL, sA]
           refine hK16 _ ?_
           refine awp_block ?_
           skip
           refine awp_loop_k (α := Nat) (fun k => ⟨T [(1, .ptr 1 0), (3, .p (.sl (bndE a))), (8, .p (.sl ((truthsR a).map encL))), (9, i64 (k : Int))], O [(1, .cells (cA a))]⟩) (fun k => (a.last + 1).toNat - k) (fun k => k ≤ (a.last + 1).toNat) 0 ?_ ?_ (fun k hx17 K17 hK17 => ?_)
           · simp
           · refine le_mk ?_ ?_ ?_ ?_ <;> (try simp (disch := omega) only [amL, sF, ↓reduceIte])
           have hk := hx17
           refine awp_seq_k fun K18 hK18 => ?_
           refine awp_seq_k fun K19 hK19 => ?_
           refine awp_ops ?_
           simp (disch := omega) only [amL, amT, sA, sF, ↓reduceIte, reduceCtorEq]
           refine hK19 _ ?_
           refine awp_cond rfl (fun h => ?_) (fun h => ?_)
           ·first
            | exact Bool.noConfusion h
            |skip
             try simp only [decide_eq_true_eq] at h
             refine awp_skip ?_
             refine hK18 _ ?_
             refine awp_seq_k fun K20 hK20 => ?_
             refine awp_block ?_
             refine awp_seq_k fun K21 hK21 => ?_
             refine awp_any2 (by kernel_rfl) (by kernel_rfl) ?_
             simp (disch := omega) only [List.length_map, List.length_range, bndE_getD, amL, amT, sA, sB, sF, ↓reduceIte]
             repeat' first | (refine EC_intro (by kernel_rfl) rfl (c36 a (truthsR a) k hf (lenR hf) (by omega) (fitR hf)) (by first | exact .inl rfl | exact .inr (.inl rfl)) ?_ ; simp (disch := omega) only [amL, ↓reduceIte]) | (refine EC_intro (by kernel_rfl) rfl (c35 _ _) (by first | exact .inl rfl | exact .inr (.inl rfl)) ?_ ; simp (disch := omega) only [ne54 (bndR_in (k := k) hf (by omega)).1 (bndR_in (k := k) hf (by omega)).2, amL, amT, sA, sF, ↓reduceIte])
             refine hK21 _ ?_
             refine awp_cond rfl (fun h => ?_) (fun h => ?_)
             ·first
              | exact Bool.noConfusion h
              |skip
               try simp only [Bool.not_eq_true', decide_eq_true_eq, decide_eq_false_iff_not, Bool.and_eq_true, Bool.not_eq_false', Bool.not_not, decide_not, Bool.not_true, Bool.not_false] at h
               refine awp_seq_k fun K22 hK22 => ?_
               refine awp_ops ?_
               simp (disch := omega) only [bA, kA, sE, hw, hf, hp, ne_eq, amL, amT, sA, sB, sC, sD, sE, sF, sG, sH, sI, sJ, sK, sL, sM, sN, sO, ↓reduceIte, reduceCtorEq]
               refine hK22 _ ?_
               refine awp_ret ?_
               try simp (disch := omega) only [bA, kA, sE, hw, hf, hp, ne_eq, amL, amT, sA, sB, sC, sD, sE, sF, sG, sH, sI, sJ, sK, sL, sM, sN, sO, ↓reduceIte, reduceCtorEq]
               all_goals first | rfl | (omega)
             ·first
              | exact Bool.noConfusion h
              |skip
               try simp only [] at h
               refine awp_skip ?_
               refine hK20 _ ?_
               refine awp_ops ?_
               simp (disch := omega) only [amL, amT, sA, sF, ↓reduceIte]
               refine hK17 (k+1) _ ?_ ?_ (le_mk ?_ ?_ ?_ ?_)
               all_goals (try simp (disch := omega) only [amL, sF, ↓reduceIte])
               all_goals first | omega | (omega)
           ·first
            | exact Bool.noConfusion h
            |skip
             try simp only [decide_eq_false_iff_not] at h
             refine awp_exit ?_
             refine hK15 _ ?_
             refine awp_seq_k fun K23 hK23 => ?_
             refine awp_ops ?_
             simp (disch := omega) only [amL]
             repeat' first | (refine EC_intro (by kernel_rfl) rfl (c20) (by first | exact .inl rfl | exact .inr (.inl rfl)) ?_ ; simp (disch := omega) only [amL, sA, ↓reduceIte])
             refine hK23 _ ?_
             refine awp_ret ?_
             try simp (disch := omega) only [amL, ↓reduceIte]
             all_goals first | rfl | (omega)
end AM.Try
end
