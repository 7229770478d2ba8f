/- Lemmas for the proof: more of the program's functions, walked on the abstract machine. -/
import Derived.Test.YtkmgffkfbocebaaP7
/- The laws' own plays. -/
section
namespace AM.Try
open Go AM AM.Duty
open Nat renaming reduceLT → sA, reduceAdd → sB, reduceMul → sC, reduceSub → sD, reduceLeDiff → sE, reduceEqDiff → sF, reduceBEq → sG
open Int renaming reduceAdd → sH, reduceSub → sI, reduceMul → sJ, reduceLT → sK, reduceLE → sL, reduceNeg → sM, reduceToNat → sN, reduceEq → sO
set_option maxHeartbeats 8000000
set_option maxRecDepth 100000
def readyS (a : Acc) : Bool := thinS a && decide (faultS a = 0)
theorem c46 (a : Acc) : PCall Go.Proofs.Try.prog 46 [avA a] (bl (readyS a)) := by
  refine pcall_mk (v := []) (q := []) (N := 10) (rs := [.tmp 2]) Go.Proofs.Try.func46 rfl rfl rfl rfl rfl ?_
  cases hth : thinS a <;> by_cases hf : faultS a = 0
  all_goals try obtain ⟨hl1, hl2⟩ := thin_len hth
  all_goals
    refine awp_seq_k fun K1 hK1 => ?_
    refine awp_ops ?_
    simp (disch := omega) only [amL, sA, ↓reduceIte]
    refine hK1 _ ?_
    refine awp_seq_k fun K2 hK2 => ?_
    refine awp_ops ?_
    simp (disch := omega) only [amL, amT, sA, sB, sF, ↓reduceIte]
    repeat' first | (refine EG_dec (fun h => ?_) (fun h => ?_) <;> simp (disch := omega) only [h, ne_eq, hth, hf, amL, amT, sA, sB, sC, sD, sE, sF, sG, sH, sI, sJ, sK, sL, sM, sN, sO, ↓reduceIte, reduceCtorEq]) | (refine EG_cases (fun h => ?_) (fun h => ?_) <;> simp (disch := omega) only [h, ne_eq, hth, hf, amL, amT, sA, sB, sC, sD, sE, sF, sG, sH, sI, sJ, sK, sL, sM, sN, sO, ↓reduceIte, reduceCtorEq]) | (refine EC_intro (by kernel_rfl) rfl (c19t a) (by first | exact .inl rfl | exact .inr (.inl rfl)) ?_ ; simp (disch := omega) only [hth, amL, amT, sA, sB, sF, ↓reduceIte]) | (refine EC_intro (by kernel_rfl) rfl (c24 a (by omega) (by omega)) (by first | exact .inl rfl | exact .inr (.inl rfl)) ?_ ; simp (disch := omega) only [hf, amL, amT, sA, sF, ↓reduceIte])
    all_goals
     skip
     refine hK2 _ ?_
     refine awp_ret ?_
     try simp (disch := omega) only [amL, ↓reduceIte]
     all_goals first | (simp [readyS, hth, hf]; done) | (omega)
def oc4R (x y z w : Option AV) : Option AV := match x, y, z, w with | some a, some b, some c, some d => some (.tup [a, b, c, d]) | _, _, _, _ => none
theorem resVars_4 {P : Program} {s : St} {x y z w : ResultVar} : (resVars P s [x, y, z, w]).map resOf = oc4R (resVar P s x) (resVar P s y) (resVar P s z) (resVar P s w) := by
  simp only [resVars]
  cases resVar P s x <;> cases resVar P s y <;> cases resVar P s z <;> cases resVar P s w <;> rfl
theorem oc4R_some {x y z w : AV} : oc4R (some x) (some y) (some z) (some w) = some (.tup [x, y, z, w]) := rfl
def unitsN (a : Acc) (n : Int) : List Int := nthS a.entries (n % sizes a.entries)
def playN (a : Acc) (n : Int) : AV := .tup [isl (unitsN a n), if isTruth a (unitsN a n) = true then isl (debtsS a (unitsN a n) []).1 else nilS, bl (isTruth a (unitsN a n)), bl true]
theorem sizes_pos {a : Acc} (hf : faultS a = 0) : 1 ≤ sizes a.entries := by
  have h := (sizes_lt (valid_small hf) (Nat.le_refl _)).1
  rwa [List.take_length] at h
theorem c47 (a : Acc) (n : Int) (hf : faultS a = 0) (hth : thinS a = true) (hin : AccIn a) (h0 : 0 ≤ n) (_ : n ≤ 1000000) : PCall Go.Proofs.Try.prog 47 [avA a, i64 n] (playN a n) := by
  have hp : (playN a n).isP = true := by unfold playN; split <;> rfl
  refine pcall_mk (v := []) (q := []) (N := 59) (rs := [.tmp 4, .tmp 5, .tmp 6, .tmp 7]) Go.Proofs.Try.func47 rfl rfl rfl rfl hp ?_
  obtain ⟨hl1, hl2⟩ := thin_len hth
  have hin' := in_of hin
  have hsm := valid_small hf
  have hsz := sizes_nat hf
  have hs1 := sizes_pos hf
  have hmo := mod_bound (m := n) hs1
  have htl : (unitsN a n).length = a.entries.length := nth_len _ _
  have hls : listedS a.entries (unitsN a n) = true := by rw [← listed_eq]; exact nth_listed (lo_le hf)
  have hla := last_in hf
  have hm : ((a.last + 1).toNat : Int) = a.last + 1 := Int.toNat_of_nonneg (by omega)
  have hdl := debts_full (a := a) (unitsN a n) []
  have pA := playA_eq a (unitsN a n)
  have c73n : PCall Go.Proofs.Try.prog 73 [avA a, i64 (n % sizes a.entries)] (isl (unitsN a n)) := c73 a _ hsm hmo.1 (by omega)
  cases hd : (debtsS a (unitsN a n) []).2
  all_goals
    have hpn : playN a n = .tup [isl (unitsN a n), if (debtsS a (unitsN a n) []).2 = true then isl (debtsS a (unitsN a n) []).1 else nilS, bl (debtsS a (unitsN a n) []).2, bl true] := rfl
    rw [hd] at hpn
    rw [hpn]
  all_goals
    refine awp_seq_k fun K1 hK1 => ?_
    refine awp_ops ?_
    simp (disch := omega) only [amL, sA, sB, ↓reduceIte]
    refine hK1 _ ?_
    refine awp_seq_k fun K2 hK2 => ?_
    refine awp_any2 (by kernel_rfl) (by kernel_rfl) ?_
    simp (disch := omega) only [amL, amT, sA, sB, sF, ↓reduceIte, reduceCtorEq]
    repeat' first | (refine EC_intro (by kernel_rfl) rfl (c50 a hsm) (by first | exact .inl rfl | exact .inr (.inl rfl)) ?_ ; simp (disch := omega) only [amL, amT, sA, sF, ↓reduceIte]) | (refine EC_intro (by kernel_rfl) rfl (c73n) (by first | exact .inl rfl | exact .inr (.inl rfl)) ?_ ; simp (disch := omega) only [amL, sA, ↓reduceIte])
    refine hK2 _ ?_
    refine awp_seq_k fun K3 hK3 => ?_
    refine awp_ops ?_
    simp (disch := omega) only [amL, amT, sA, sB, sF, ↓reduceIte]
    repeat' first | (refine EC_intro (by kernel_rfl) rfl (PCall.of_nil 2 rfl (c27 a _ [] (fit_nth hf _) (by decide))) (by first | exact .inl rfl | exact .inr (.inl rfl)) ?_ ; simp (disch := omega) only [hd, amL, sA, sF, ↓reduceIte])
    refine hK3 _ ?_
    refine awp_seq_k fun K4 hK4 => ?_
    refine awp_ops ?_
    simp (disch := omega) only [amL, amT, sA, sB, sF, ↓reduceIte]
    repeat' first | (refine EC_intro (by kernel_rfl) rfl (c22 a (by omega) (by omega)) (by first | exact .inl rfl | exact .inr (.inl rfl)) ?_ ; simp (disch := omega) only [amL, sA, sF, ↓reduceIte]) | (refine EC_intro (by kernel_rfl) rfl (c23 _ (by omega)) (by first | exact .inl rfl | exact .inr (.inl rfl)) ?_ ; simp (disch := omega) only [amL, sF, ↓reduceIte]) | (refine EC_intro (by kernel_rfl) rfl (c21 a (unitsN a n) (by omega) (by omega) (by omega) hin') (by first | exact .inl rfl | exact .inr (.inl rfl)) ?_ ; simp (disch := omega) only [pA, hf, hls, hd, amL, sA, sF, ↓reduceIte])
    refine hK4 _ ?_
    refine awp_seq_k fun K5 hK5 => ?_
    refine awp_ops ?_
    simp (disch := omega) only [hm, hdl, amL, amT, sA, sF, sO, ↓reduceIte, reduceCtorEq]
    repeat' first | (refine EG_dec (fun h => ?_) (fun h => ?_) <;> simp (disch := omega) only [h, pA, hf, hls, hd, ne_eq, hm, resVars_4, oc4R_some, hdl, amL, amT, sA, sB, sC, sD, sE, sF, sG, sH, sI, sJ, sK, sL, sM, sN, sO, ↓reduceIte, reduceCtorEq]) | (refine EG_cases (fun h => ?_) (fun h => ?_) <;> simp (disch := omega) only [h, pA, hf, hls, hd, ne_eq, hm, resVars_4, oc4R_some, hdl, amL, amT, sA, sB, sC, sD, sE, sF, sG, sH, sI, sJ, sK, sL, sM, sN, sO, ↓reduceIte, reduceCtorEq])
    all_goals
     skip
     refine hK5 _ ?_
     refine awp_ret ?_
     try simp (disch := omega) only [resVars_4, oc4R_some, amL, sF, ↓reduceIte]
     all_goals first | rfl | (omega)
end AM.Try
end
/- The stage's theorem. -/
section
namespace AM.Try
open Go AM AM.Duty
open Nat renaming reduceLT → sA, reduceAdd → sB, reduceMul → sC, reduceSub → sD, reduceLeDiff → sE, reduceEqDiff → sF, reduceBEq → sG
open Int renaming reduceAdd → sH, reduceSub → sI, reduceMul → sJ, reduceLT → sK, reduceLE → sL, reduceNeg → sM, reduceToNat → sN, reduceEq → sO
set_option maxHeartbeats 8000000
set_option maxRecDepth 100000
theorem units_in {a : Acc} (hf : faultS a = 0) {n : Int} (h : isTruth a (unitsN a n) = true) : unitsN a n ∈ truthsR a := by
  rw [← mem_truths hf]
  unfold truthsL
  rw [List.mem_filter, mem_lists]
  refine ⟨⟨_, rfl, nth_listed (lo_le hf)⟩, ?_⟩
  have := (playS_ask hf (unitsN a n)).1
  rw [show (debtsS a (unitsN a n) []).2 = isTruth a (unitsN a n) from rfl, h] at this
  simpa using this
theorem bnd_le {a : Acc} {t : List Int} (ht : t ∈ truthsR a) (k : Nat) : (bndR a k (truthsR a)).1 ≤ debtOn a k t ∧ debtOn a k t ≤ (bndR a k (truthsR a)).2 := by
  unfold bndR; rw [bnd_fold]
  exact ⟨(min_spec _ _).2.2 _ (List.mem_map_of_mem ht), (max_spec _ _).2.2 _ (List.mem_map_of_mem ht)⟩
theorem kept_one {a : Acc} {l : List (List Int)} {t : List Int} (ht : t ∈ l) (h : keptR a l = 1) : keepsS a.bond (debtsS a t []).1 = true := by
  unfold keptR at h
  split at h
  · rename_i e
    have := List.any_eq_false.1 (keptN_all.1 e) t ht
    simpa using this
  · split at h <;> cases h
theorem kept_two {a : Acc} {l : List (List Int)} {t : List Int} (ht : t ∈ l) (h : keptR a l = 2) : keepsS a.bond (debtsS a t []).1 = false := by
  unfold keptR at h
  split at h
  · cases h
  · split at h
    · rename_i e
      have := List.any_eq_false.1 (keptN_none.1 e) t ht
      simpa using this
    · cases h
theorem keptR_in {a : Acc} {l : List (List Int)} : keptR a l = 1 ∨ keptR a l = 2 ∨ keptR a l = 3 := by
  unfold keptR; split
  · exact .inl rfl
  · split
    · exact .inr (.inl rfl)
    · exact .inr (.inr rfl)
theorem keeps_take {b : Int} {d : List Int} {k : Nat} (h : k < d.length) : keepsS b (d.take (k + 1)) = (keepsS b (d.take k) && decide (d.getD k 0 ≤ b)) := by
  unfold keepsS
  rw [List.take_add_one, List.all_append]
  have : d[k]? = some (d.getD k 0) := by rw [List.getD_eq_getElem?_getD, List.getElem?_eq_getElem h]; rfl
  rw [this]; simp
end AM.Try
end
/- The stage's theorem: the law. -/
section
namespace AM.Try
open Go AM AM.Duty
open Nat renaming reduceLT → sA, reduceAdd → sB, reduceMul → sC, reduceSub → sD, reduceLeDiff → sE, reduceEqDiff → sF, reduceBEq → sG
open Int renaming reduceAdd → sH, reduceSub → sI, reduceMul → sJ, reduceLT → sK, reduceLE → sL, reduceNeg → sM, reduceToNat → sN, reduceEq → sO
set_option maxHeartbeats 8000000
set_option maxRecDepth 100000
theorem c8 (a : Acc) (n : Int) (hin : AccIn a) (h0 : 0 ≤ n) (h1 : n < 65536) : PCall Go.Proofs.Try.prog 8 [avA a, .p (.val (.int .u16 n))] (bl true) := by
  refine pcall_mk (v := []) (q := []) (N := 121) (rs := [.tmp 4]) Go.Proofs.Try.func8 rfl rfl rfl rfl rfl ?_
  have bA := bA4 a
  have kA := kA4 a
  have hin' := in_of hin
  have hwr : IntKind.i64.wrap n = n := wrap64 (by omega) (by omega)
  cases hr : readyS a <;> cases hd : isTruth a (unitsN a n)
  all_goals
    first
    | (have hrr : thinS a = true ∧ faultS a = 0 := by simpa [readyS] using hr
       obtain ⟨ht, hf⟩ := hrr
       obtain ⟨hl1, hl2⟩ := thin_len ht
       have hla := last_in hf
       have hm : ((a.last + 1).toNat : Int) = a.last + 1 := Int.toNat_of_nonneg (by omega)
       have hdl := debts_full (a := a) (unitsN a n) [])
    | (have hf := hwr; have hm := hwr; have hdl := hwr)
    first
    | (have hmem := units_in hf hd
       have hp : (truthsR a).isEmpty = false := by
         cases hR : truthsR a with
         | nil => rw [hR] at hmem; cases hmem
         | cons _ _ => rfl)
    | have hp := hwr
    have pN : playN a n = .tup [isl (unitsN a n), if isTruth a (unitsN a n) = true then isl (debtsS a (unitsN a n) []).1 else nilS, bl (isTruth a (unitsN a n)), bl true] := rfl
  all_goals
    refine awp_seq_k fun K1 hK1 => ?_
    refine awp_ops ?_
    simp (disch := omega) only [amL, sA, sB, ↓reduceIte]
    refine hK1 _ ?_
    refine awp_seq_k fun K2 hK2 => ?_
    refine awp_seq_k fun K3 hK3 => ?_
    refine awp_ops ?_
    simp (disch := omega) only [amL, amT, sA, sB, sF, ↓reduceIte]
    repeat' first | (refine EC_intro (by kernel_rfl) rfl (c46 a) (by first | exact .inl rfl | exact .inr (.inl rfl)) ?_ ; simp (disch := omega) only [hr, amL, sA, ↓reduceIte])
    refine hK3 _ ?_
    refine awp_cond rfl (fun h => ?_) (fun h => ?_)
    ·first
     | exact Bool.noConfusion h
     |skip
      try simp only [] at h
      refine awp_seq_k fun K4 hK4 => ?_
      refine awp_ops ?_
      simp (disch := omega) only [amL]
      repeat' first | (refine EC_intro (by kernel_rfl) rfl (c20) (by first | exact .inl rfl | exact .inr (.inl rfl)) ?_ ; simp (disch := omega) only [amL, sA, ↓reduceIte])
      refine hK4 _ ?_
      refine awp_ret ?_
      try simp (disch := omega) only [amL, ↓reduceIte]
      all_goals first | rfl | (exfalso; omega) | (exfalso; simp only [inB, Bool.and_eq_false_iff, decide_eq_false_iff_not] at h; omega) | (rcases q3 with e | e | e <;> subst e <;> simp_all [inB]; done) | (cases ks <;> rcases q3 with e | e | e <;> subst e <;> simp_all [inB]; done) | (omega)
    ·first
     | exact Bool.noConfusion h
     |skip
      try simp only [] at h
      refine awp_skip ?_
      refine hK2 _ ?_
      refine awp_seq_k fun K5 hK5 => ?_
      refine awp_ops ?_
      simp (disch := omega) only [hp, hwr, amL, amT, sA, sB, sF, ↓reduceIte, reduceCtorEq]
      repeat' first | (refine EC_intro (by kernel_rfl) rfl (c47 a n hf ht hin h0 (by omega)) (by first | exact .inl rfl | exact .inr (.inl rfl)) ?_ ; simp (disch := omega) only [pN, hd, amL, sA, sF, ↓reduceIte])
      refine hK5 _ ?_
      refine awp_seq_k fun K6 hK6 => ?_
      refine awp_seq_k fun K7 hK7 => ?_
      refine awp_ops ?_
      simp (disch := omega) only [amL, sA, sF, ↓reduceIte]
      repeat' first | (refine EG_dec (fun h => ?_) (fun h => ?_) <;> simp (disch := omega) only [h, pN, bA, kA, hr, hf, hd, hp, hm, hwr, hdl, ne_eq, List.length_range, amL, amT, sA, sB, sC, sD, sE, sF, sG, sH, sI, sJ, sK, sL, sM, sN, sO, ↓reduceIte, reduceCtorEq]) | (refine EG_cases (fun h => ?_) (fun h => ?_) <;> simp (disch := omega) only [h, pN, bA, kA, hr, hf, hd, hp, hm, hwr, hdl, ne_eq, List.length_range, amL, amT, sA, sB, sC, sD, sE, sF, sG, sH, sI, sJ, sK, sL, sM, sN, sO, ↓reduceIte, reduceCtorEq])
      all_goals
       skip
       refine hK7 _ ?_
       refine awp_cond rfl (fun h => ?_) (fun h => ?_)
       ·first
        | exact Bool.noConfusion h
        |skip
         try simp only [] at h
         refine awp_seq_k fun K8 hK8 => ?_
         refine awp_ops ?_
         simp (disch := omega) only [amL, sA, sF, ↓reduceIte]
         repeat' first | (refine EG_dec (fun h => ?_) (fun h => ?_) <;> simp (disch := omega) only [h, pN, bA, kA, hr, hf, hd, hp, hm, hwr, hdl, ne_eq, List.length_range, amL, amT, sA, sB, sC, sD, sE, sF, sG, sH, sI, sJ, sK, sL, sM, sN, sO, ↓reduceIte, reduceCtorEq]) | (refine EG_cases (fun h => ?_) (fun h => ?_) <;> simp (disch := omega) only [h, pN, bA, kA, hr, hf, hd, hp, hm, hwr, hdl, ne_eq, List.length_range, amL, amT, sA, sB, sC, sD, sE, sF, sG, sH, sI, sJ, sK, sL, sM, sN, sO, ↓reduceIte, reduceCtorEq]) | (refine EC_intro (by kernel_rfl) rfl (c20) (by first | exact .inl rfl | exact .inr (.inl rfl)) ?_ ; simp (disch := omega) only [amL, sA, sF, ↓reduceIte])
         all_goals
          skip
          refine hK8 _ ?_
          refine awp_ret ?_
          try simp (disch := omega) only [amL, ↓reduceIte]
          all_goals first | rfl | (exfalso; omega) | (exfalso; simp only [inB, Bool.and_eq_false_iff, decide_eq_false_iff_not] at h; omega) | (rcases q3 with e | e | e <;> subst e <;> simp_all [inB]; done) | (cases ks <;> rcases q3 with e | e | e <;> subst e <;> simp_all [inB]; done) | (omega)
       ·first
        | exact Bool.noConfusion h
        |skip
         try simp only [] at h
         refine awp_skip ?_
         refine hK6 _ ?_
         refine awp_seq_k fun K9 hK9 => ?_
         refine awp_ops ?_
         simp (disch := omega) only [amL, amT, sA, sB, sF, ↓reduceIte]
         repeat' first | (refine EC_intro (by kernel_rfl) rfl (c22 a (by omega) (by omega)) (by first | exact .inl rfl | exact .inr (.inl rfl)) ?_ ; simp (disch := omega) only [amL, ↓reduceIte]) | (refine EC_intro (by kernel_rfl) rfl (c30 a (by omega) (by omega) hin') (by first | exact .inl rfl | exact .inr (.inl rfl)) ?_ ; simp (disch := omega) only [bA, hf, hp, amL, sA, sF, ↓reduceIte])
         refine hK9 _ ?_
         refine awp_seq_k fun K10 hK10 => ?_
         refine awp_ops ?_
         simp (disch := omega) only [amL, amT, sA, sB, sF, ↓reduceIte]
         repeat' first | (refine EC_intro (by kernel_rfl) rfl (c22 a (by omega) (by omega)) (by first | exact .inl rfl | exact .inr (.inl rfl)) ?_ ; simp (disch := omega) only [amL, ↓reduceIte]) | (refine EC_intro (by kernel_rfl) rfl (c31 a (by omega) (by omega) hin') (by first | exact .inl rfl | exact .inr (.inl rfl)) ?_ ; simp (disch := omega) only [kA, hf, hp, amL, sA, sF, ↓reduceIte])
         refine hK10 _ ?_
         refine awp_seq_k fun K11 hK11 => ?_
         refine awp_seq_k fun K12 hK12 => ?_
         refine awp_ops ?_
         simp (disch := omega) only [hm, hdl, ne_eq, List.length_range, amL, amT, sA, sF, ↓reduceIte]
         repeat' first | (refine EG_dec (fun h => ?_) (fun h => ?_) <;> simp (disch := omega) only [h, pN, bA, kA, hr, hf, hd, hp, hm, hwr, hdl, ne_eq, List.length_range, amL, amT, sA, sB, sC, sD, sE, sF, sG, sH, sI, sJ, sK, sL, sM, sN, sO, ↓reduceIte, reduceCtorEq]) | (refine EG_cases (fun h => ?_) (fun h => ?_) <;> simp (disch := omega) only [h, pN, bA, kA, hr, hf, hd, hp, hm, hwr, hdl, ne_eq, List.length_range, amL, amT, sA, sB, sC, sD, sE, sF, sG, sH, sI, sJ, sK, sL, sM, sN, sO, ↓reduceIte, reduceCtorEq])
         all_goals
          skip
          refine hK12 _ ?_
          refine awp_cond rfl (fun h => ?_) (fun h => ?_)
          ·first
           | exact Bool.noConfusion h
           |skip
            try simp only [Bool.not_eq_true', decide_eq_true_eq, decide_eq_false_iff_not, Bool.and_eq_true, Bool.not_eq_false', Bool.not_not, decide_not, Bool.not_true, Bool.not_false] at h
            refine awp_seq_k fun K13 hK13 => ?_
            refine awp_ops ?_
            simp (disch := omega) only [pN, bA, kA, hr, hf, hd, hp, hm, hwr, hdl, ne_eq, List.length_range, amL, amT, sA, sB, sC, sD, sE, sF, sG, sH, sI, sJ, sK, sL, sM, sN, sO, ↓reduceIte, reduceCtorEq]
            refine hK13 _ ?_
            refine awp_ret ?_
            try simp (disch := omega) only [pN, bA, kA, hr, hf, hd, hp, hm, hwr, hdl, ne_eq, List.length_range, amL, amT, sA, sB, sC, sD, sE, sF, sG, sH, sI, sJ, sK, sL, sM, sN, sO, ↓reduceIte, reduceCtorEq]
            all_goals first | rfl | (exfalso; omega) | (exfalso; simp only [inB, Bool.and_eq_false_iff, decide_eq_false_iff_not] at h; omega) | (rcases q3 with e | e | e <;> subst e <;> simp_all [inB]; done) | (cases ks <;> rcases q3 with e | e | e <;> subst e <;> simp_all [inB]; done) | (omega)
          ·first
           | exact Bool.noConfusion h
           |skip
            try simp only [] at h
            refine awp_skip ?_
            refine hK11 _ ?_
            refine awp_seq_k fun K14 hK14 => ?_
            refine awp_ops ?_
            simp (disch := omega) only [amL, sA]
            refine hK14 _ ?_
            refine awp_seq_k fun K15 hK15 => ?_
            refine awp_seq_k fun K16 hK16 => ?_
            refine awp_ops ?_
            simp (disch := omega) only [amL, sA]
            refine hK16 _ ?_
            refine awp_block ?_
            skip
            refine awp_loop_k (α := Nat) (fun k => ⟨T [(2, .ptr 2 0), (6, isl (debtsS a (unitsN a n) []).1), (9, .p (.sl (bndE a))), (11, i64 (keptR a (truthsR a))), (13, bl (keepsS a.bond ((debtsS a (unitsN a n) []).1.take k))), (14, i64 (k : Int))], O [(2, .cells (cA a))]⟩) (fun k => (a.last + 1).toNat - k) (fun k => k ≤ (a.last + 1).toNat) 0 ?_ ?_ (fun k hx17 K17 hK17 => ?_)
            · simp
            · refine le_mk ?_ ?_ ?_ ?_ <;> (try simp (disch := omega) only [amL, sF, ↓reduceIte]); all_goals rfl
            have hk := hx17
            refine awp_seq_k fun K18 hK18 => ?_
            refine awp_seq_k fun K19 hK19 => ?_
            refine awp_ops ?_
            simp (disch := omega) only [hm, hdl, amL, amT, sA, sF, ↓reduceIte]
            refine hK19 _ ?_
            refine awp_cond rfl (fun h => ?_) (fun h => ?_)
            ·first
             | exact Bool.noConfusion h
             |skip
              try simp only [decide_eq_true_eq] at h
              refine awp_skip ?_
              refine hK18 _ ?_
              refine awp_seq_k fun K20 hK20 => ?_
              refine awp_block ?_
              refine awp_seq_k fun K21 hK21 => ?_
              refine awp_seq_k fun K22 hK22 => ?_
              refine awp_any2 (by kernel_rfl) (by kernel_rfl) ?_
              have hb := bnd_le hmem k
              unfold debtOn at hb
              simp (disch := omega) only [bndE_getD, hm, hdl, List.length_range, amL, amT, sA, sB, sF, ↓reduceIte, reduceCtorEq]
              repeat' first | (refine EG_dec (fun h => ?_) (fun h => ?_) <;> simp (disch := omega) only [h, bndE_getD, hm, hdl, List.length_range, amL, amT, sA, sB, sF, ↓reduceIte, reduceCtorEq]) | (refine EG_cases (fun h => ?_) (fun h => ?_) <;> simp (disch := omega) only [h, bndE_getD, pN, bA, kA, hr, hf, hd, hp, hm, hwr, hdl, ne_eq, List.length_range, amL, amT, sA, sB, sC, sD, sE, sF, sG, sH, sI, sJ, sK, sL, sM, sN, sO, ↓reduceIte, reduceCtorEq])
              all_goals
               skip
               refine hK22 _ ?_
               refine awp_cond rfl (fun h => ?_) (fun h => ?_)
               ·first
                | exact Bool.noConfusion h
                |skip
                 try simp only [decide_eq_true_eq] at h
                 refine awp_seq_k fun K23 hK23 => ?_
                 refine awp_ops ?_
                 simp (disch := omega) only [amL, sA]
                 refine hK23 _ ?_
                 refine awp_ret ?_
                 try simp (disch := omega) only [amL, ↓reduceIte]
                 all_goals first | rfl | (exfalso; omega) | (exfalso; simp only [inB, Bool.and_eq_false_iff, decide_eq_false_iff_not] at h; omega) | (rcases q3 with e | e | e <;> subst e <;> simp_all [inB]; done) | (cases ks <;> rcases q3 with e | e | e <;> subst e <;> simp_all [inB]; done) | (omega)
               ·first
                | exact Bool.noConfusion h
                |skip
                 try simp only [decide_eq_false_iff_not] at h
                 refine awp_skip ?_
                 refine hK21 _ ?_
                 refine awp_any2 (by kernel_rfl) (by kernel_rfl) ?_
                 simp (disch := omega) only [amL, sA, sF, ↓reduceIte]
                 repeat' first | (refine EG_dec (fun h => ?_) (fun h => ?_) <;> simp (disch := omega) only [h, pN, bA, kA, hr, hf, hd, hp, hm, hwr, hdl, ne_eq, List.length_range, amL, amT, sA, sB, sC, sD, sE, sF, sG, sH, sI, sJ, sK, sL, sM, sN, sO, ↓reduceIte, reduceCtorEq]) | (refine EG_cases (fun h => ?_) (fun h => ?_) <;> simp (disch := omega) only [h, hm, hdl, amL, amT, sA, sF, ↓reduceIte, reduceCtorEq])
                 all_goals
                  skip
                  refine hK20 _ ?_
                  refine awp_ops ?_
                  simp (disch := omega) only [amL, amT, sA, sF, ↓reduceIte]
                  refine hK17 (k+1) _ ?_ ?_ (le_mk ?_ ?_ ?_ ?_)
                  all_goals (try simp (disch := omega) only [amL, sF, ↓reduceIte])
                  all_goals first | omega | (rw [keeps_take (by omega)]; simp_all; done) | (omega)
            ·first
             | exact Bool.noConfusion h
             |skip
              try simp only [decide_eq_false_iff_not] at h
              refine awp_exit ?_
              refine hK15 _ ?_
              refine awp_seq_k fun K24 hK24 => ?_
              refine awp_ops ?_
              have e17 : (debtsS a (unitsN a n) []).1.take k = (debtsS a (unitsN a n) []).1 := List.take_of_length_le (by omega)
              have q1 := kept_one (a := a) hmem
              have q2 := kept_two (a := a) hmem
              have q3 := keptR_in (a := a) (l := truthsR a)
              rw [e17]
              generalize keptR a (truthsR a) = kr at q1 q2 q3 ⊢
              generalize keepsS a.bond (debtsS a (unitsN a n) []).1 = ks at q1 q2 ⊢
              simp (disch := omega) only [ne_eq, amL, amT, sA, sF, ↓reduceIte]
              repeat' first | (refine EG_dec (fun h => ?_) (fun h => ?_) <;> simp (disch := omega) only [h, ne_eq, amL, amT, sA, sF, ↓reduceIte]) | (refine EG_cases (fun h => ?_) (fun h => ?_) <;> simp (disch := omega) only [h, ne_eq, amL, amT, sA, sF, ↓reduceIte]) | (refine EC_intro (by kernel_rfl) rfl (c48 _ _ _) (by first | exact .inl rfl | exact .inr (.inl rfl)) ?_ ; simp (disch := omega) only [amL, sA, sF, ↓reduceIte]) | (refine EC_intro (by kernel_rfl) rfl (c20) (by first | exact .inl rfl | exact .inr (.inl rfl)) ?_ ; simp (disch := omega) only [amL, sA, sF, ↓reduceIte])
              all_goals
               skip
               refine hK24 _ ?_
               refine awp_ret ?_
               try simp (disch := omega) only [amL, ↓reduceIte]
               all_goals first | rfl | (exfalso; omega) | (exfalso; simp only [inB, Bool.and_eq_false_iff, decide_eq_false_iff_not] at h; omega) | (rcases q3 with e | e | e <;> subst e <;> simp_all []; done) | (cases ks <;> rcases q3 with e | e | e <;> subst e <;> simp_all [inB]; done) | (omega)
end AM.Try
end
