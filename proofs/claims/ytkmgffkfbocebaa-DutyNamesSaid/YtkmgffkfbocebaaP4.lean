/- Lemmas for the proof: an abstract machine over the program's form in Lean, and the program's functions walked on it. -/
import Derived.Test.YtkmgffkfbocebaaP3
/- AmT68 -/
section
namespace AM.Try
open Go AM AM.Duty
open Nat renaming reduceLT → sA, reduceAdd → sB, reduceMul → sC, reduceSub → sD, reduceLeDiff → sE, reduceEqDiff → sF, reduceBEq → sG
open Int renaming reduceAdd → sH, reduceSub → sI, reduceMul → sJ, reduceLT → sK, reduceLE → sL, reduceNeg → sM, reduceToNat → sN, reduceEq → sO
set_option maxHeartbeats 4000000
theorem not_mem_take_succ {l : List Int} {n : Int} {k : Nat} (hk : k < l.length) (h : ¬ n ∈ l.take k) (hn : ¬ l.getD k 0 = n) : ¬ n ∈ l.take (k + 1) := by
  rw [List.take_add_one, List.mem_append]
  rintro (h' | h')
  · exact h h'
  · simp [hk, List.getD] at h' hn
    exact hn h'.symm
theorem has_yes {l : List Int} {n : Int} {k : Nat} (hk : k < l.length) (h : l.getD k 0 = n) : bl true = bl (decide (n ∈ l)) := by
  have : n ∈ l := by rw [← h, ← List.getElem_eq_getD (h := hk)]; exact List.getElem_mem _
  simp [this]
theorem has_no {l : List Int} {n : Int} {k : Nat} (hk : l.length ≤ k) (h : ¬ n ∈ l.take k) : bl false = bl (decide (n ∈ l)) := by
  rw [List.take_of_length_le hk] at h
  simp [h]
theorem c68 (l : List Int) (n : Int) (hl : l.length < 1000000) : PCall Go.Proofs.Try.prog 68 [isl l, i64 n] (bl (decide (n ∈ l))) := by
  refine pcall_mk (v := []) (q := []) (N := 18) (rs := [.tmp 4]) Go.Proofs.Try.func68 rfl rfl rfl rfl rfl ?_
  refine awp_seq_k fun K1 hK1 => ?_
  refine awp_ops ?_
  simp (disch := omega) only [amL, sA, sB]
  refine hK1 _ ?_
  refine awp_seq_k fun K2 hK2 => ?_
  refine awp_seq_k fun K3 hK3 => ?_
  refine awp_ops ?_
  simp (disch := omega) only [amL, sA]
  refine hK3 _ ?_
  refine awp_block ?_
  skip
  refine awp_loop_k (α := Nat) (fun k => ⟨T [(0, isl l), (1, i64 n), (5, i64 k)], O []⟩) (fun k => l.length - k) (fun k => k ≤ l.length ∧ n ∉ l.take k) 0 ?_ ?_ (fun k hx4 K4 hK4 => ?_)
  · simp
  · refine le_mk ?_ ?_ ?_ ?_ <;> (try simp (disch := omega) only [amL, sF, ↓reduceIte, reduceCtorEq])
  obtain ⟨hk, hn⟩ := hx4
  refine awp_seq_k fun K5 hK5 => ?_
  refine awp_seq_k fun K6 hK6 => ?_
  refine awp_ops ?_
  simp (disch := omega) only [amL, amT, sA, sF, ↓reduceIte, reduceCtorEq]
  refine hK6 _ ?_
  refine awp_cond rfl (fun h => ?_) (fun h => ?_)
  ·first
   | exact Bool.noConfusion h
   |skip
    try simp only [decide_eq_true_eq] at h
    refine awp_skip ?_
    refine hK5 _ ?_
    refine awp_seq_k fun K7 hK7 => ?_
    refine awp_block ?_
    refine awp_seq_k fun K8 hK8 => ?_
    refine awp_ops ?_
    simp (disch := omega) only [amL, amT, sA, sF, ↓reduceIte, reduceCtorEq]
    refine hK8 _ ?_
    refine awp_cond rfl (fun h => ?_) (fun h => ?_)
    ·first
     | exact Bool.noConfusion h
     |skip
      try simp only [decide_eq_true_eq] at h
      refine awp_seq_k fun K9 hK9 => ?_
      refine awp_ops ?_
      simp (disch := omega) only [amL, sA]
      refine hK9 _ ?_
      refine awp_ret ?_
      try simp (disch := omega) only [amL, ↓reduceIte]
      all_goals first | exact has_yes (by omega) h | exact has_no (by omega) hn
    ·first
     | exact Bool.noConfusion h
     |skip
      try simp only [decide_eq_false_iff_not] at h
      refine awp_skip ?_
      refine hK7 _ ?_
      refine awp_ops ?_
      simp (disch := omega) only [amL, amT, sA, sF, ↓reduceIte, reduceCtorEq]
      refine hK4 (k+1) _ ?_ ?_ (le_mk ?_ ?_ ?_ ?_)
      all_goals (try simp (disch := omega) only [amL, sF, ↓reduceIte, reduceCtorEq])
      all_goals first | omega | exact ⟨by omega, not_mem_take_succ (by omega) hn h⟩
  ·first
   | exact Bool.noConfusion h
   |skip
    try simp only [decide_eq_false_iff_not] at h
    refine awp_exit ?_
    refine hK2 _ ?_
    refine awp_seq_k fun K10 hK10 => ?_
    refine awp_ops ?_
    simp (disch := omega) only [amL, sA]
    refine hK10 _ ?_
    refine awp_ret ?_
    try simp (disch := omega) only [amL, ↓reduceIte]
    all_goals first | exact has_yes (by omega) h | exact has_no (by omega) hn
end AM.Try
end
/- The reference: debts. -/
section
namespace AM.Try
open Go AM AM.Duty
open Nat renaming reduceLT → sA, reduceAdd → sB, reduceMul → sC, reduceSub → sD, reduceLeDiff → sE, reduceEqDiff → sF, reduceBEq → sG
open Int renaming reduceAdd → sH, reduceSub → sI, reduceMul → sJ, reduceLT → sK, reduceLE → sL, reduceNeg → sM, reduceToNat → sN, reduceEq → sO
set_option maxHeartbeats 16000000
structure Wk where
  debt : Int
  plain : Int
  units : Int
  ok : Bool
def stepE (rate : Int) (day : Int) (e : Entry) (u : Int) (w : Wk) : Wk :=
  if ¬ e.day = day then w
  else if e.kind = 0 then ⟨w.debt + u * rate, w.plain + u * rate, w.units + u, w.ok⟩
  else if e.kind = 1 then ⟨w.debt - e.pence, w.plain - e.pence, w.units, w.ok⟩
  else if e.kind = 2 then ⟨w.debt - u * rate, w.plain - u * rate, w.units - u, w.ok && decide (0 ≤ w.units - u)⟩
  else if e.kind = 3 then ⟨w.debt, w.plain, w.units, w.ok && decide (w.plain = e.pence)⟩
  else w
def dayF (rate : Int) (day : Int) : List Entry → List Int → Wk → Wk
  | e :: es, u :: us, w => dayF rate day es us (stepE rate day e u w)
  | _, _, w => w
theorem dayF_step {rate day : Int} {es : List Entry} {t : List Int} {j : Nat} {w : Wk} (h1 : j < es.length) (h2 : j < t.length) : dayF rate day (es.drop j) (t.drop j) w = dayF rate day (es.drop (j + 1)) (t.drop (j + 1)) (stepE rate day (getE es j) (t.getD j 0) w) := by
  rw [drop_getD (d := default) h1, drop_getD (d := 0) h2]; rfl
theorem dayF_end {rate day : Int} {es : List Entry} {t : List Int} {j : Nat} {w : Wk} (h2 : t.length ≤ j) : dayF rate day (es.drop j) (t.drop j) w = w := by
  rw [List.drop_of_length_le h2]
  cases es.drop j <;> rfl
def dayI (a : Acc) (w : Wk) : Wk := ⟨w.debt + intS a.interest w.debt, w.plain + intS a.interest w.plain, w.units, w.ok⟩
def dayS (a : Acc) (t paid : List Int) (day : Nat) (w : Wk) : Wk :=
  let w1 := dayF (ratedX a.rates (day + 1)) day a.entries t (dayI a w)
  if (day : Int) ∈ paid then ⟨w1.debt - a.purse, w1.plain, w1.units, w1.ok⟩ else w1
def debtsF (a : Acc) (t paid : List Int) : Nat → Nat → Wk → List Int × Bool
  | 0, _, w => ([], w.ok)
  | c + 1, day, w => let w' := dayS a t paid day w
    let r := debtsF a t paid c (day + 1) w'
    (w'.debt :: r.1, r.2)
def debtsS (a : Acc) (t paid : List Int) : List Int × Bool := debtsF a t paid (a.last + 1).toNat 0 ⟨0, 0, 0, true⟩
def bnd : Nat → Int
  | 0 => 2000000
  | d + 1 => 2 * bnd d + 2000000
theorem bnd_lo : ∀ d, 2000000 ≤ bnd d
  | 0 => by simp [bnd]
  | d + 1 => by have := bnd_lo d; simp only [bnd]; omega
theorem bnd_hi {d : Nat} (h : d ≤ 12) : bnd d ≤ 100000000000 := by
  have : d = 0 ∨ d = 1 ∨ d = 2 ∨ d = 3 ∨ d = 4 ∨ d = 5 ∨ d = 6 ∨ d = 7 ∨ d = 8 ∨ d = 9 ∨ d = 10 ∨ d = 11 ∨ d = 12 := by omega
  rcases this with rfl | rfl | rfl | rfl | rfl | rfl | rfl | rfl | rfl | rfl | rfl | rfl | rfl <;> decide
theorem int_bound {i d : Int} (h1 : 0 ≤ i) (h2 : i ≤ 200) : 0 ≤ intS i d ∧ (intS i d ≤ d ∨ (d ≤ 0 ∧ intS i d = 0)) := by
  unfold intS
  split
  · omega
  · have h3 : d * i ≤ d * 200 := Int.mul_le_mul_of_nonneg_left h2 (by omega)
    have h4 : 0 ≤ d * i := Int.mul_nonneg (by omega) h1
    omega
structure Fit (a : Acc) (t : List Int) : Prop where
  last0 : 0 ≤ a.last
  last1 : a.last ≤ 11
  int0 : 0 ≤ a.interest
  int1 : a.interest ≤ 200
  purse0 : 0 ≤ a.purse
  purse1 : a.purse ≤ 100000
  len : t.length ≤ a.entries.length
  lenE : a.entries.length ≤ 11
  lenR : a.rates.length < 1000000
  rate : ∀ x, 0 ≤ ratedX a.rates x ∧ ratedX a.rates x ≤ 100
  unit : ∀ j, j < t.length → 0 ≤ t.getD j 0 ∧ t.getD j 0 ≤ 50
  pence : ∀ j, j < a.entries.length → -100000 ≤ (getE a.entries j).pence ∧ (getE a.entries j).pence ≤ 100000
theorem worth_bound {u r : Int} (h1 : 0 ≤ u) (h2 : u ≤ 50) (h3 : 0 ≤ r) (h4 : r ≤ 100) : 0 ≤ u * r ∧ u * r ≤ 5000 := by
  refine ⟨Int.mul_nonneg h1 h3, ?_⟩
  have := Int.mul_le_mul h2 h4 h3 (by omega)
  omega
theorem step_other {rate day u : Int} {e : Entry} {w : Wk} (h : ¬ e.day = day) : stepE rate day e u w = w := by rw [stepE, if_pos h]
theorem step_0 {rate day u : Int} {e : Entry} {w : Wk} (h : e.day = day) (hk : e.kind = 0) : stepE rate day e u w = ⟨w.debt + u * rate, w.plain + u * rate, w.units + u, w.ok⟩ := by
  rw [stepE, if_neg (by omega), if_pos hk]
theorem step_1 {rate day u : Int} {e : Entry} {w : Wk} (h : e.day = day) (hk : e.kind = 1) : stepE rate day e u w = ⟨w.debt - e.pence, w.plain - e.pence, w.units, w.ok⟩ := by
  rw [stepE, if_neg (by omega), if_neg (by omega), if_pos hk]
theorem step_2 {rate day u : Int} {e : Entry} {w : Wk} (h : e.day = day) (hk : e.kind = 2) : stepE rate day e u w = ⟨w.debt - u * rate, w.plain - u * rate, w.units - u, w.ok && decide (0 ≤ w.units - u)⟩ := by
  rw [stepE, if_neg (by omega), if_neg (by omega), if_neg (by omega), if_pos hk]
theorem step_3 {rate day u : Int} {e : Entry} {w : Wk} (h : e.day = day) (hk : e.kind = 3) : stepE rate day e u w = ⟨w.debt, w.plain, w.units, w.ok && decide (w.plain = e.pence)⟩ := by
  rw [stepE, if_neg (by omega), if_neg (by omega), if_neg (by omega), if_neg (by omega), if_pos hk]
theorem step_4 {rate day u : Int} {e : Entry} {w : Wk} (h0 : ¬ e.kind = 0) (h1 : ¬ e.kind = 1) (h2 : ¬ e.kind = 2) (h3 : ¬ e.kind = 3) : stepE rate day e u w = w := by
  simp only [stepE, if_neg h0, if_neg h1, if_neg h2, if_neg h3, ite_self]
def inW (b c : Int) (w : Wk) : Prop := -b ≤ w.debt ∧ w.debt ≤ b ∧ -b ≤ w.plain ∧ w.plain ≤ b ∧ -c ≤ w.units ∧ w.units ≤ c
theorem step_in {rate day u b c : Int} {e : Entry} {w : Wk} (h : inW b c w) (hw : 0 ≤ u * rate ∧ u * rate ≤ 5000) (hu : 0 ≤ u ∧ u ≤ 50) (hp : -100000 ≤ e.pence ∧ e.pence ≤ 100000) : inW (b + 100000) (c + 50) (stepE rate day e u w) := by
  unfold inW at *
  unfold stepE
  split
  · omega
  · split
    · simp only []; omega
    · split
      · simp only []; omega
      · split
        · simp only []; omega
        · split
          · simp only []; omega
          · omega
theorem step_ok {rate : Int} {day : Nat} {es : List Entry} {t : List Int} {j : Nat} {v R : Wk} {b c : Int} (hd : dayF rate day (es.drop j) (t.drop j) v = R) (hv : inW (b + 100000 * (j : Int)) (c + 50 * (j : Int)) v) (hw : 0 ≤ t.getD j 0 * rate ∧ t.getD j 0 * rate ≤ 5000)
    (hu : 0 ≤ t.getD j 0 ∧ t.getD j 0 ≤ 50) (hp : -100000 ≤ (getE es j).pence ∧ (getE es j).pence ≤ 100000) (h1 : j < es.length) (h2 : j < t.length) :
    j + 1 ≤ t.length ∧ inW (b + 100000 * ((j + 1 : Nat) : Int)) (c + 50 * ((j + 1 : Nat) : Int)) (stepE rate day (getE es j) (t.getD j 0) v) ∧ dayF rate day (es.drop (j + 1)) (t.drop (j + 1)) (stepE rate day (getE es j) (t.getD j 0) v) = R := by
  rw [dayF_step h1 h2] at hd
  refine ⟨h2, ?_, hd⟩
  have e1 : b + 100000 * ((j + 1 : Nat) : Int) = b + 100000 * (j : Int) + 100000 := by omega
  have e2 : c + 50 * ((j + 1 : Nat) : Int) = c + 50 * (j : Int) + 50 := by omega
  rw [e1, e2]
  exact step_in hv hw hu hp
theorem dayS_in {a : Acc} {t paid : List Int} {day : Nat} {w v : Wk} (h : v = dayF (ratedX a.rates (day + 1)) day a.entries t (dayI a w)) (hd : (day : Int) ∈ paid) : dayS a t paid day w = ⟨v.debt - a.purse, v.plain, v.units, v.ok⟩ := by
  subst h; simp [dayS, hd]
theorem dayS_out {a : Acc} {t paid : List Int} {day : Nat} {w v : Wk} (h : v = dayF (ratedX a.rates (day + 1)) day a.entries t (dayI a w)) (hd : ¬ (day : Int) ∈ paid) : dayS a t paid day w = v := by
  subst h; simp [dayS, hd]
theorem dayF_done {rate : Int} {day : Int} {es : List Entry} {t : List Int} {j : Nat} {v R : Wk} (h : t.length ≤ j) (hd : dayF rate day (es.drop j) (t.drop j) v = R) : v = R := by rwa [dayF_end h] at hd
theorem debts_step {a : Acc} {t paid : List Int} {c day : Nat} {w : Wk} : debtsF a t paid (c + 1) day w = ((dayS a t paid day w).debt :: (debtsF a t paid c (day + 1) (dayS a t paid day w)).1, (debtsF a t paid c (day + 1) (dayS a t paid day w)).2) := rfl
theorem day_ok {a : Acc} {t paid acc : List Int} {w v : Wk} (hd : v = dayF (ratedX a.rates (acc.length + 1)) acc.length a.entries t (dayI a w)) {j : Nat} (hj : j ≤ 11) (hv : inW (2 * bnd acc.length + 100000 * (j : Int)) (600 * (acc.length : Int) + 50 * (j : Int)) v)
    (hp0 : 0 ≤ a.purse) (hp1 : a.purse ≤ 100000) (hk : (acc.length : Int) ≤ a.last) (h0 : 0 ≤ a.last) (hr1 : acc ++ (debtsF a t paid ((a.last + 1).toNat - acc.length) acc.length w).1 = (debtsS a t paid).1) (hr2 : (debtsF a t paid ((a.last + 1).toNat - acc.length) acc.length w).2 = (debtsS a t paid).2) :
    ((acc ++ [(dayS a t paid acc.length w).debt]).length : Int) ≤ a.last + 1 ∧ inW (bnd (acc ++ [(dayS a t paid acc.length w).debt]).length) (600 * ((acc ++ [(dayS a t paid acc.length w).debt]).length : Int)) (dayS a t paid acc.length w) ∧
    acc ++ [(dayS a t paid acc.length w).debt] ++ (debtsF a t paid ((a.last + 1).toNat - (acc ++ [(dayS a t paid acc.length w).debt]).length) (acc ++ [(dayS a t paid acc.length w).debt]).length (dayS a t paid acc.length w)).1 = (debtsS a t paid).1 ∧
    (debtsF a t paid ((a.last + 1).toNat - (acc ++ [(dayS a t paid acc.length w).debt]).length) (acc ++ [(dayS a t paid acc.length w).debt]).length (dayS a t paid acc.length w)).2 = (debtsS a t paid).2 := by
  have key : (a.last + 1).toNat - acc.length = ((a.last + 1).toNat - (acc.length + 1)) + 1 := by omega
  rw [key, debts_step] at hr1 hr2
  have hl : (acc ++ [(dayS a t paid acc.length w).debt]).length = acc.length + 1 := by simp
  rw [hl]
  refine ⟨by omega, ?_, by simpa using hr1, hr2⟩
  have hb : bnd (acc.length + 1) = 2 * bnd acc.length + 2000000 := rfl
  rw [hb]
  by_cases hm : (acc.length : Int) ∈ paid
  · rw [dayS_in hd hm]
    unfold inW at *
    simp only []
    omega
  · rw [dayS_out hd hm]
    unfold inW at *
    omega
theorem c27 (a : Acc) (t paid : List Int) (hf : Fit a t) (hp : paid.length < 1000000) : PCall Go.Proofs.Try.prog 27 [avA a, isl t, isl paid] (.tup [isl (debtsS a t paid).1, bl (debtsS a t paid).2]) := by
  refine pcall_mk (v := []) (q := []) (N := 123) (rs := [.tmp 6, .tmp 7]) Go.Proofs.Try.func27 rfl rfl rfl rfl rfl ?_
  have hb0 := bnd_lo
  obtain ⟨last0, last1, int0, int1, purse0, purse1, hlen, lenE, lenR, hrate, hunit, hpence⟩ := hf
  refine awp_seq_k fun K1 hK1 => ?_
  refine awp_ops ?_
  simp (disch := omega) only [amL, sA, sB, ↓reduceIte]
  refine hK1 _ ?_
  refine awp_seq_k fun K2 hK2 => ?_
  refine awp_ops ?_
  simp (disch := omega) only [amL, sA]
  refine hK2 _ ?_
  refine awp_seq_k fun K3 hK3 => ?_
  refine awp_ops ?_
  simp (disch := omega) only [amL, sA]
  refine hK3 _ ?_
  refine awp_seq_k fun K4 hK4 => ?_
  refine awp_ops ?_
  simp (disch := omega) only [amL, sA]
  refine hK4 _ ?_
  refine awp_seq_k fun K5 hK5 => ?_
  refine awp_seq_k fun K6 hK6 => ?_
  refine awp_ops ?_
  simp (disch := omega) only [amL, sA]
  refine hK6 _ ?_
  refine awp_block ?_
  refine awp_adopt' 120 1 8 (by decide) rfl rfl ?_
  refine awp_loop_k (α := List Int × Wk) (fun x => ⟨T [(1, isl t), (2, isl paid), (3, .ptr 3 0), (8, .own 120 x.1.length), (9, i64 x.2.debt), (10, i64 x.2.plain), (11, i64 x.2.units), (12, bl x.2.ok), (13, i64 x.1.length)], O [(3, .cells (cA a)), (120, .arr 1 (x.1.map fun n => [iv n]))]⟩) (fun x => (a.last + 1).toNat - x.1.length) (fun x => (x.1.length : Int) ≤ a.last + 1 ∧ inW (bnd x.1.length) (600 * (x.1.length : Int)) x.2 ∧ x.1 ++ (debtsF a t paid ((a.last + 1).toNat - x.1.length) x.1.length x.2).1 = (debtsS a t paid).1 ∧ (debtsF a t paid ((a.last + 1).toNat - x.1.length) x.1.length x.2).2 = (debtsS a t paid).2) ([], ⟨0, 0, 0, true⟩) ?_ ?_ (fun x hx7 K7 hK7 => ?_)
  · exact ⟨by simp; omega, by simp [bnd, inW], rfl, rfl⟩
  · refine le_mk ?_ ?_ ?_ ?_ <;> (try simp (disch := omega) only [amL, sF, sG, ↓reduceIte, reduceCtorEq])
  obtain ⟨acc, w⟩ := x; dsimp only at hx7 ⊢; obtain ⟨hk, hw0, hr1, hr2⟩ := hx7; have hw := hw0; unfold inW at hw; have hbh := bnd_hi (d := acc.length) (by omega)
  refine awp_seq_k fun K8 hK8 => ?_
  refine awp_seq_k fun K9 hK9 => ?_
  refine awp_ops ?_
  simp (disch := omega) only [amL, amT, sA, sF, ↓reduceIte, reduceCtorEq]
  refine hK9 _ ?_
  refine awp_cond rfl (fun h => ?_) (fun h => ?_)
  ·first
   | exact Bool.noConfusion h
   |skip
    try simp only [decide_eq_true_eq] at h
    refine awp_skip ?_
    refine hK8 _ ?_
    refine awp_seq_k fun K10 hK10 => ?_
    refine awp_block ?_
    refine awp_seq_k fun K11 hK11 => ?_
    refine awp_any2 (by kernel_rfl) (by kernel_rfl) ?_
    have hi1 := int_bound (d := w.debt) int0 int1
    have hi2 := int_bound (d := w.plain) int0 int1
    simp (disch := omega) only [amL, amT, sA, sB, sF, ↓reduceIte]
    repeat' first | (refine EC_intro (by kernel_rfl) rfl (c67 a _ (by omega) (by omega) int0 (by omega)) (by first | exact .inl rfl | exact .inr (.inl rfl)) ?_ ; simp (disch := omega) only [amL, amT, sA, sB, sF, ↓reduceIte])
    refine hK11 _ ?_
    refine awp_seq_k fun K12 hK12 => ?_
    refine awp_seq_k fun K13 hK13 => ?_
    refine awp_ops ?_
    simp (disch := omega) only [amL, sA]
    refine hK13 _ ?_
    refine awp_block ?_
    skip
    refine awp_loop_k (α := Nat × Wk) (fun y => ⟨T [(1, isl t), (2, isl paid), (3, .ptr 3 0), (8, .own 120 acc.length), (9, i64 y.2.debt), (10, i64 y.2.plain), (11, i64 y.2.units), (12, bl y.2.ok), (13, i64 acc.length), (14, i64 y.1)], O [(3, .cells (cA a)), (120, .arr 1 (acc.map fun n => [iv n]))]⟩) (fun y => t.length - y.1) (fun y => y.1 ≤ t.length ∧ inW (2 * bnd acc.length + 100000 * (y.1 : Int)) (600 * (acc.length : Int) + 50 * (y.1 : Int)) y.2 ∧ dayF (ratedX a.rates (acc.length + 1)) acc.length (a.entries.drop y.1) (t.drop y.1) y.2 = dayF (ratedX a.rates (acc.length + 1)) acc.length a.entries t (dayI a w)) (0, dayI a w) ?_ ?_ (fun y hx14 K14 hK14 => ?_)
    · exact ⟨by simp, by unfold inW dayI; simp only []; omega, by simp⟩
    · refine le_mk ?_ ?_ ?_ ?_ <;> (try simp (disch := omega) only [amL, sF, sG, ↓reduceIte]) <;> (first | done | exact ⟨rfl, rfl, rfl, rfl⟩)
    obtain ⟨j, v⟩ := y; dsimp only at hx14 ⊢; obtain ⟨hj, hv0, hd⟩ := hx14; have hv := hv0; unfold inW at hv
    refine awp_seq_k fun K15 hK15 => ?_
    refine awp_seq_k fun K16 hK16 => ?_
    refine awp_ops ?_
    simp (disch := omega) only [amL, amT, sA, sF, ↓reduceIte]
    refine hK16 _ ?_
    refine awp_cond rfl (fun h => ?_) (fun h => ?_)
    ·first
     | exact Bool.noConfusion h
     |skip
      try simp only [decide_eq_true_eq] at h
      refine awp_skip ?_
      refine hK15 _ ?_
      refine awp_seq_k fun K17 hK17 => ?_
      refine awp_block ?_
      refine awp_seq_k fun K18 hK18 => ?_
      refine awp_ops ?_
      have hj2 : j < a.entries.length := by omega
      have hu := hunit j (by omega)
      have hpe := hpence j (by omega)
      have hra := hrate (acc.length + 1)
      have hwo := worth_bound hu.1 hu.2 hra.1 hra.2
      simp (disch := omega) only [encE_getD, amL, amT, sA, sB, sF, ↓reduceIte, reduceCtorEq]
      refine hK18 _ ?_
      refine awp_seq_k fun K19 hK19 => ?_
      refine awp_seq_k fun K20 hK20 => ?_
      refine awp_ops ?_
      simp (disch := omega) only [amL, amT, sA, sF, ↓reduceIte, reduceCtorEq]
      refine hK20 _ ?_
      refine awp_cond rfl (fun h => ?_) (fun h => ?_)
      ·first
       | exact Bool.noConfusion h
       |skip
        try simp only [Bool.not_eq_true', decide_eq_false_iff_not, decide_not] at h
        refine awp_exit ?_
        refine hK17 _ ?_
        refine awp_ops ?_
        simp (disch := omega) only [amL, amT, sA, sF, ↓reduceIte]
        refine hK14 (j + 1, stepE (ratedX a.rates (acc.length + 1)) acc.length (getE a.entries j) (t.getD j 0) v) _ ?_ ?_ (le_mk ?_ ?_ ?_ ?_)
        all_goals (try simp (disch := omega) only [amL, sF, sG, ↓reduceIte])
        all_goals first | omega | exact step_ok hd hv0 hwo hu hpe (by omega) (by omega) | (rw [step_other (by omega)]; exact ⟨rfl, rfl, rfl, rfl⟩) | (rw [step_0 (by omega) (by assumption)]; exact ⟨rfl, rfl, rfl, rfl⟩) | (rw [step_1 (by omega) (by assumption)]; exact ⟨rfl, rfl, rfl, rfl⟩) | (rw [step_2 (by omega) (by assumption)]; refine ⟨rfl, rfl, rfl, ?_⟩; simp [*]; done) | (rw [step_3 (by omega) (by assumption)]; refine ⟨rfl, rfl, rfl, ?_⟩; simp [*]; done) | (rw [step_4 (by assumption) (by assumption) (by assumption) (by assumption)]; exact ⟨rfl, rfl, rfl, rfl⟩) | (omega)
      ·first
       | exact Bool.noConfusion h
       |skip
        try simp only [decide_eq_true_eq, Bool.not_eq_false', decide_not] at h
        refine awp_skip ?_
        refine hK19 _ ?_
        refine awp_seq_k fun K21 hK21 => ?_
        refine awp_any2 (by kernel_rfl) (by kernel_rfl) ?_
        simp (disch := omega) only [amL, amT, sA, sB, sF, ↓reduceIte]
        repeat' first | (refine EC_intro (by kernel_rfl) rfl (c54 a _ (by omega) lenR) (by first | exact .inl rfl | exact .inr (.inl rfl)) ?_ ; simp (disch := omega) only [amL, amT, sA, sF, ↓reduceIte])
        refine hK21 _ ?_
        refine awp_seq_k fun K22 hK22 => ?_
        refine awp_ops ?_
        simp (disch := omega) only [amL, amT, sA, sF, ↓reduceIte, reduceCtorEq]
        refine hK22 _ ?_
        refine awp_block ?_
        refine awp_seq_k fun K23 hK23 => ?_
        refine awp_ops ?_
        simp (disch := omega) only [amL, amT, sA, ↓reduceIte]
        refine hK23 _ ?_
        refine awp_cond rfl (fun h => ?_) (fun h => ?_)
        ·first
         | exact Bool.noConfusion h
         |skip
          try simp only [decide_eq_true_eq] at h
          refine awp_any2 (by kernel_rfl) (by kernel_rfl) ?_
          simp (disch := omega) only [amL, amT, sA, sF, ↓reduceIte]
          refine hK17 _ ?_
          refine awp_ops ?_
          simp (disch := omega) only [amL, amT, sA, sF, ↓reduceIte]
          refine hK14 (j + 1, stepE (ratedX a.rates (acc.length + 1)) acc.length (getE a.entries j) (t.getD j 0) v) _ ?_ ?_ (le_mk ?_ ?_ ?_ ?_)
          all_goals (try simp (disch := omega) only [amL, sF, sG, ↓reduceIte])
          all_goals first | omega | exact step_ok hd hv0 hwo hu hpe (by omega) (by omega) | (rw [step_other (by omega)]; exact ⟨rfl, rfl, rfl, rfl⟩) | (rw [step_0 (by omega) (by assumption)]; exact ⟨rfl, rfl, rfl, rfl⟩) | (rw [step_1 (by omega) (by assumption)]; exact ⟨rfl, rfl, rfl, rfl⟩) | (rw [step_2 (by omega) (by assumption)]; refine ⟨rfl, rfl, rfl, ?_⟩; simp [*]; done) | (rw [step_3 (by omega) (by assumption)]; refine ⟨rfl, rfl, rfl, ?_⟩; simp [*]; done) | (rw [step_4 (by assumption) (by assumption) (by assumption) (by assumption)]; exact ⟨rfl, rfl, rfl, rfl⟩) | (omega)
        ·first
         | exact Bool.noConfusion h
         |skip
          try simp only [decide_eq_false_iff_not] at h
          refine awp_seq_k fun K24 hK24 => ?_
          refine awp_ops ?_
          simp (disch := omega) only [amL, amT, sA, sF, ↓reduceIte]
          refine hK24 _ ?_
          refine awp_cond rfl (fun h => ?_) (fun h => ?_)
          ·first
           | exact Bool.noConfusion h
           |skip
            try simp only [decide_eq_true_eq] at h
            refine awp_any2 (by kernel_rfl) (by kernel_rfl) ?_
            simp (disch := omega) only [amL, amT, sA, sF, ↓reduceIte, reduceCtorEq]
            refine hK17 _ ?_
            refine awp_ops ?_
            simp (disch := omega) only [amL, amT, sA, sF, ↓reduceIte]
            refine hK14 (j + 1, stepE (ratedX a.rates (acc.length + 1)) acc.length (getE a.entries j) (t.getD j 0) v) _ ?_ ?_ (le_mk ?_ ?_ ?_ ?_)
            all_goals (try simp (disch := omega) only [amL, sF, sG, ↓reduceIte])
            all_goals first | omega | exact step_ok hd hv0 hwo hu hpe (by omega) (by omega) | (rw [step_other (by omega)]; exact ⟨rfl, rfl, rfl, rfl⟩) | (rw [step_0 (by omega) (by assumption)]; exact ⟨rfl, rfl, rfl, rfl⟩) | (rw [step_1 (by omega) (by assumption)]; exact ⟨rfl, rfl, rfl, rfl⟩) | (rw [step_2 (by omega) (by assumption)]; refine ⟨rfl, rfl, rfl, ?_⟩; simp [*]; done) | (rw [step_3 (by omega) (by assumption)]; refine ⟨rfl, rfl, rfl, ?_⟩; simp [*]; done) | (rw [step_4 (by assumption) (by assumption) (by assumption) (by assumption)]; exact ⟨rfl, rfl, rfl, rfl⟩) | (omega)
          ·first
           | exact Bool.noConfusion h
           |skip
            try simp only [decide_eq_false_iff_not] at h
            refine awp_seq_k fun K25 hK25 => ?_
            refine awp_ops ?_
            simp (disch := omega) only [amL, amT, sA, sF, ↓reduceIte]
            refine hK25 _ ?_
            refine awp_cond rfl (fun h => ?_) (fun h => ?_)
            ·first
             | exact Bool.noConfusion h
             |skip
              try simp only [decide_eq_true_eq] at h
              refine awp_seq_k fun K26 hK26 => ?_
              refine awp_any2 (by kernel_rfl) (by kernel_rfl) ?_
              simp (disch := omega) only [amL, amT, sA, sF, ↓reduceIte]
              refine hK26 _ ?_
              refine awp_ops ?_
              simp (disch := omega) only [amL, sA, sF, ↓reduceIte]
              repeat' first | (refine EG_dec (fun h => ?_) (fun h => ?_) <;> simp (disch := omega) only [h, encE_getD, amL, amT, sA, sB, sC, sD, sE, sF, sG, sH, sI, sJ, sK, sL, sM, sN, sO, ↓reduceIte, reduceCtorEq]) | (refine EG_cases (fun h => ?_) (fun h => ?_) <;> simp (disch := omega) only [h, amL, amT, sA, sF, ↓reduceIte])
              all_goals
               skip
               refine hK17 _ ?_
               refine awp_ops ?_
               simp (disch := omega) only [amL, amT, sA, sF, ↓reduceIte]
               refine hK14 (j + 1, stepE (ratedX a.rates (acc.length + 1)) acc.length (getE a.entries j) (t.getD j 0) v) _ ?_ ?_ (le_mk ?_ ?_ ?_ ?_)
               all_goals (try simp (disch := omega) only [amL, sF, sG, ↓reduceIte])
               all_goals first | omega | exact step_ok hd hv0 hwo hu hpe (by omega) (by omega) | (rw [step_other (by omega)]; exact ⟨rfl, rfl, rfl, rfl⟩) | (rw [step_0 (by omega) (by assumption)]; exact ⟨rfl, rfl, rfl, rfl⟩) | (rw [step_1 (by omega) (by assumption)]; exact ⟨rfl, rfl, rfl, rfl⟩) | (rw [step_2 (by omega) (by assumption)]; refine ⟨rfl, rfl, rfl, ?_⟩; simp [*]; done) | (rw [step_3 (by omega) (by assumption)]; refine ⟨rfl, rfl, rfl, ?_⟩; simp [*]; done) | (rw [step_4 (by assumption) (by assumption) (by assumption) (by assumption)]; exact ⟨rfl, rfl, rfl, rfl⟩) | (omega)
            ·first
             | exact Bool.noConfusion h
             |skip
              try simp only [decide_eq_false_iff_not] at h
              refine awp_seq_k fun K27 hK27 => ?_
              refine awp_ops ?_
              simp (disch := omega) only [amL, amT, sA, sF, ↓reduceIte]
              refine hK27 _ ?_
              refine awp_cond rfl (fun h => ?_) (fun h => ?_)
              ·first
               | exact Bool.noConfusion h
               |skip
                try simp only [decide_eq_true_eq] at h
                refine awp_ops ?_
                simp (disch := omega) only [amL, sA, sF, ↓reduceIte]
                repeat' first | (refine EG_dec (fun h => ?_) (fun h => ?_) <;> simp (disch := omega) only [h, encE_getD, amL, amT, sA, sB, sC, sD, sE, sF, sG, sH, sI, sJ, sK, sL, sM, sN, sO, ↓reduceIte, reduceCtorEq]) | (refine EG_cases (fun h => ?_) (fun h => ?_) <;> simp (disch := omega) only [h, amL, amT, sA, sF, ↓reduceIte, reduceCtorEq])
                all_goals
                 skip
                 refine hK17 _ ?_
                 refine awp_ops ?_
                 simp (disch := omega) only [amL, amT, sA, sF, ↓reduceIte]
                 refine hK14 (j + 1, stepE (ratedX a.rates (acc.length + 1)) acc.length (getE a.entries j) (t.getD j 0) v) _ ?_ ?_ (le_mk ?_ ?_ ?_ ?_)
                 all_goals (try simp (disch := omega) only [amL, sF, sG, ↓reduceIte])
                 all_goals first | omega | exact step_ok hd hv0 hwo hu hpe (by omega) (by omega) | (rw [step_other (by omega)]; exact ⟨rfl, rfl, rfl, rfl⟩) | (rw [step_0 (by omega) (by assumption)]; exact ⟨rfl, rfl, rfl, rfl⟩) | (rw [step_1 (by omega) (by assumption)]; exact ⟨rfl, rfl, rfl, rfl⟩) | (rw [step_2 (by omega) (by assumption)]; refine ⟨rfl, rfl, rfl, ?_⟩; simp [*]; done) | (rw [step_3 (by omega) (by assumption)]; refine ⟨rfl, rfl, rfl, ?_⟩; simp [*]; done) | (rw [step_4 (by assumption) (by assumption) (by assumption) (by assumption)]; exact ⟨rfl, rfl, rfl, rfl⟩) | (omega)
              ·first
               | exact Bool.noConfusion h
               |skip
                try simp only [decide_eq_false_iff_not] at h
                refine awp_skip ?_
                refine hK17 _ ?_
                refine awp_ops ?_
                simp (disch := omega) only [amL, amT, sA, sF, ↓reduceIte]
                refine hK14 (j + 1, stepE (ratedX a.rates (acc.length + 1)) acc.length (getE a.entries j) (t.getD j 0) v) _ ?_ ?_ (le_mk ?_ ?_ ?_ ?_)
                all_goals (try simp (disch := omega) only [amL, sF, sG, ↓reduceIte])
                all_goals first | omega | exact step_ok hd hv0 hwo hu hpe (by omega) (by omega) | (rw [step_other (by omega)]; exact ⟨rfl, rfl, rfl, rfl⟩) | (rw [step_0 (by omega) (by assumption)]; exact ⟨rfl, rfl, rfl, rfl⟩) | (rw [step_1 (by omega) (by assumption)]; exact ⟨rfl, rfl, rfl, rfl⟩) | (rw [step_2 (by omega) (by assumption)]; refine ⟨rfl, rfl, rfl, ?_⟩; simp [*]; done) | (rw [step_3 (by omega) (by assumption)]; refine ⟨rfl, rfl, rfl, ?_⟩; simp [*]; done) | (rw [step_4 (by assumption) (by assumption) (by assumption) (by assumption)]; exact ⟨rfl, rfl, rfl, rfl⟩) | (omega)
    ·first
     | exact Bool.noConfusion h
     |skip
      try simp only [decide_eq_false_iff_not] at h
      refine awp_exit ?_
      refine hK12 _ ?_
      refine awp_seq_k fun K28 hK28 => ?_
      refine awp_seq_k fun K29 hK29 => ?_
      refine awp_ops ?_
      simp (disch := omega) only [amL, sA, sF, ↓reduceIte]
      repeat' first | (refine EC_intro (by kernel_rfl) rfl (c68 paid _ hp) (by first | exact .inl rfl | exact .inr (.inl rfl)) ?_ ; simp (disch := omega) only [amL])
      refine hK29 _ ?_
      refine awp_cond rfl (fun h => ?_) (fun h => ?_)
      ·first
       | exact Bool.noConfusion h
       |skip
        try simp only [decide_eq_true_eq] at h
        refine awp_ops ?_
        simp (disch := omega) only [amL, amT, sA, sF, ↓reduceIte, reduceCtorEq]
        refine hK28 _ ?_
        refine awp_ops ?_
        simp (disch := omega) only [amL, amT, sA, sE, sF, ↓reduceIte, reduceCtorEq]
        refine hK10 _ ?_
        refine awp_ops ?_
        have hd2 := dayF_done (by omega) hd
        simp (disch := omega) only [amL, amT, sA, sF, ↓reduceIte]
        refine hK7 (acc ++ [(dayS a t paid acc.length w).debt], dayS a t paid acc.length w) _ ?_ ?_ (le_mk ?_ ?_ ?_ ?_)
        all_goals (try simp (disch := omega) only [amL, sF, sG, ↓reduceIte])
        all_goals first | exact day_ok hd2 (j := j) (by omega) hv0 purse0 purse1 (by omega) last0 hr1 hr2 | (simp; omega) | (rw [dayS_in hd2 h]; simp; done) | (rw [dayS_out hd2 h]; simp; done) | (rw [dayS_in hd2 h]; simp)
      ·first
       | exact Bool.noConfusion h
       |skip
        try simp only [decide_eq_false_iff_not] at h
        refine awp_skip ?_
        refine hK28 _ ?_
        refine awp_ops ?_
        simp (disch := omega) only [amL, amT, sA, sE, sF, ↓reduceIte, reduceCtorEq]
        refine hK10 _ ?_
        refine awp_ops ?_
        have hd2 := dayF_done (by omega) hd
        simp (disch := omega) only [amL, amT, sA, sF, ↓reduceIte]
        refine hK7 (acc ++ [(dayS a t paid acc.length w).debt], dayS a t paid acc.length w) _ ?_ ?_ (le_mk ?_ ?_ ?_ ?_)
        all_goals (try simp (disch := omega) only [amL, sF, sG, ↓reduceIte])
        all_goals first | exact day_ok hd2 (j := j) (by omega) hv0 purse0 purse1 (by omega) last0 hr1 hr2 | (simp; omega) | (rw [dayS_in hd2 h]; simp; done) | (rw [dayS_out hd2 h]; simp; done) | (rw [dayS_in hd2 h]; simp)
  ·first
   | exact Bool.noConfusion h
   |skip
    try simp only [decide_eq_false_iff_not] at h
    refine awp_exit ?_
    refine hK5 _ ?_
    refine awp_seq_k fun K30 hK30 => ?_
    refine awp_ops ?_
    simp (disch := omega) only [amL, sA, sF, ↓reduceIte]
    refine hK30 _ ?_
    refine awp_ret ?_
    try simp (disch := omega) only [amL, sF, ↓reduceIte]
    (have e : (a.last + 1).toNat - acc.length = 0 := by omega); rw [e] at hr1 hr2; simp only [debtsF, List.append_nil] at hr1 hr2; rw [← hr1, ← hr2, List.take_of_length_le (by simp)]
end AM.Try
end
/- The program: an account is played. -/
section
namespace AM.Try
open Go AM AM.Duty
open Nat renaming reduceLT → sA, reduceAdd → sB, reduceMul → sC, reduceSub → sD, reduceLeDiff → sE, reduceEqDiff → sF, reduceBEq → sG
open Int renaming reduceAdd → sH, reduceSub → sI, reduceMul → sJ, reduceLT → sK, reduceLE → sL, reduceNeg → sM, reduceToNat → sN, reduceEq → sO
set_option maxHeartbeats 16000000
set_option maxRecDepth 100000
def actP (rate : Int) (e : Entry) (u : Int) (w : Int × Int) : (Int × Int) × Bool :=
  if e.kind = 0 then ((w.1 + u * rate, w.2 + u), true)
  else if e.kind = 1 then ((w.1 - e.pence, w.2), true)
  else if e.kind = 2 then ((w.1 - u * rate, w.2 - u), decide (0 ≤ w.2 - u))
  else (w, decide (w.1 = e.pence))
def stepP (ask : Bool) (rate day : Int) (e : Entry) (u : Int) (w : Int × Int) : (Int × Int) × Bool :=
  if ¬ e.day = day then (w, true) else if e.kind = 3 ∧ ask = false then (w, true) else actP rate e u w
def dayP (ask : Bool) (rate day : Int) : List Entry → List Int → Int × Int → Option (Int × Int)
  | e :: es, u :: us, w => if (stepP ask rate day e u w).2 = true then dayP ask rate day es us (stepP ask rate day e u w).1 else none
  | _, _, w => some w
theorem dayP_step {ask : Bool} {rate day : Int} {es : List Entry} {t : List Int} {j : Nat} {w : Int × Int} (h1 : j < es.length) (h2 : j < t.length) : dayP ask rate day (es.drop j) (t.drop j) w = if (stepP ask rate day (getE es j) (t.getD j 0) w).2 = true then dayP ask rate day (es.drop (j + 1)) (t.drop (j + 1)) (stepP ask rate day (getE es j) (t.getD j 0) w).1 else none := by
  rw [drop_getD (d := default) h1, drop_getD (d := 0) h2]; rfl
theorem dayP_end {ask : Bool} {rate day : Int} {es : List Entry} {t : List Int} {j : Nat} {w : Int × Int} (h : es.length ≤ j) : dayP ask rate day (es.drop j) (t.drop j) w = some w := by
  rw [List.drop_of_length_le h]; rfl
def intP (a : Acc) (w : Int × Int) : Int × Int := (w.1 + intS a.interest w.1, w.2)
def payP (a : Acc) (paid : List Int) (day : Nat) (w : Int × Int) : Int × Int := if (day : Int) ∈ paid then (w.1 - a.purse, w.2) else w
def playF (a : Acc) (t paid : List Int) (ask : Bool) : Nat → Nat → Int × Int → List Int × Bool
  | 0, _, _ => ([], true)
  | c + 1, day, w => match dayP ask (rateOn day a.rates 0) day a.entries t (intP a w) with
    | none => ([], false)
    | some v => ((payP a paid day v).1 :: (playF a t paid ask c (day + 1) (payP a paid day v)).1, (playF a t paid ask c (day + 1) (payP a paid day v)).2)
theorem playF_succ (a : Acc) (t paid : List Int) (ask : Bool) (c day : Nat) (w : Int × Int) : playF a t paid ask (c + 1) day w = match dayP ask (rateOn day a.rates 0) day a.entries t (intP a w) with
    | none => ([], false)
    | some v => ((payP a paid day v).1 :: (playF a t paid ask c (day + 1) (payP a paid day v)).1, (playF a t paid ask c (day + 1) (payP a paid day v)).2) := rfl
def playS (a : Acc) (t paid : List Int) (ask : Bool) : List Int × Bool := playF a t paid ask (a.last + 1).toNat 0 (0, 0)
def pad (l : List Int) : List Int := l ++ List.replicate (12 - l.length) 0
theorem pad_len {l : List Int} (h : l.length ≤ 12) : (pad l).length = 12 := by simp [pad]; omega
structure FitP (a : Acc) (t : List Int) : Prop where
  last0 : 0 ≤ a.last
  last1 : a.last ≤ 11
  int0 : 0 ≤ a.interest
  int1 : a.interest ≤ 200
  purse0 : 0 ≤ a.purse
  purse1 : a.purse ≤ 100000
  len : t.length = a.entries.length
  lenE : a.entries.length ≤ 8
  lenR : a.rates.length < 1000000
  rate : ∀ x, 0 ≤ rateOn x a.rates 0 ∧ rateOn x a.rates 0 ≤ 100
  unit : ∀ j, j < t.length → 0 ≤ t.getD j 0 ∧ t.getD j 0 ≤ 50
  ent : ∀ j, j < a.entries.length → (0 ≤ (getE a.entries j).kind ∧ (getE a.entries j).kind ≤ 3) ∧ (-100000 ≤ (getE a.entries j).pence ∧ (getE a.entries j).pence ≤ 100000) ∧ (0 ≤ (getE a.entries j).lo ∧ (getE a.entries j).lo ≤ 50) ∧ (0 ≤ (getE a.entries j).hi ∧ (getE a.entries j).hi ≤ 50) ∧ 0 ≤ (getE a.entries j).day ∧ (getE a.entries j).day ≤ 11
abbrev act1 (k : Int) : AV := .fn (.func (99 + k.toNat)) [] []
theorem cAct {a : Acc} {d u : Int} {w m : Nat} {os : Nat → Option AO} {e : Entry} {n : Int} {bd : Nat} (hl : a.rates.length < 1000000) (hr : (kM e n).all inR = true) (hk : 0 ≤ e.kind ∧ e.kind ≤ 3) (hb1 : -1000000000000000000 ≤ d ∧ d ≤ 1000000000000000000) (hp : -100000 ≤ e.pence ∧ e.pence ≤ 100000) (hb3 : -1000000000000000000 ≤ u ∧ u ≤ 1000000000000000000) (hn : 0 ≤ n ∧ n ≤ 50) (hra : 0 ≤ rateOn e.day a.rates 0 ∧ rateOn e.day a.rates 0 ≤ 100)
    (hw : os w = some (.cells (cW a d u m))) (hm : os m = some (.obj (MemoO 6 (worthS a.rates)))) :
    VCall Go.Proofs.Try.prog bd (act1 e.kind) [.ptr w 0, avM e n] os fun res os' => res = bl (actP (rateOn e.day a.rates 0) e n (d, u)).2 ∧ os' = upd os w (some (.cells (cW a (actP (rateOn e.day a.rates 0) e n (d, u)).1.1 (actP (rateOn e.day a.rates 0) e n (d, u)).1.2 m))) := by
  have hwo := worth_bound hn.1 hn.2 hra.1 hra.2
  have hwr : worthS a.rates (kM e n) = n * rateOn e.day a.rates 0 := wrap64 (by omega) (by omega)
  have hk4 : e.kind = 0 ∨ e.kind = 1 ∨ e.kind = 2 ∨ e.kind = 3 := by omega
  rcases hk4 with h | h | h | h
  · rw [h]
    refine VCall.mono (c99 (e := e) (n := n) hl hr hb1 (by rw [hwr]; omega) hb3 (by omega) hw hm) ?_
    rintro res os' ⟨rfl, rfl⟩
    simp [actP, h, hwr]
  · rw [h]
    refine VCall.mono (c100 (e := e) (n := n) hb1 (by omega) hw hm) ?_
    rintro res os' ⟨rfl, rfl⟩
    simp [actP, h]
  · rw [h]
    refine VCall.mono (c101 (e := e) (n := n) hl hr hb1 (by rw [hwr]; omega) hb3 (by omega) hw hm) ?_
    rintro res os' ⟨rfl, rfl⟩
    simp [actP, h, hwr]
  · rw [h]
    refine VCall.mono (c102 (e := e) (n := n) hw hm) ?_
    rintro res os' ⟨rfl, rfl⟩
    simp only [actP, h, Int.reduceEq, if_false, true_and]
    refine (funext fun k => ?_)
    by_cases e : k = w
    · subst e; rw [upd_eq, hw]
    · rw [upd_ne e]
def tabA : List AV := [.fn (.func 99) [] [], .fn (.func 100) [] [], .fn (.func 101) [] [], .fn (.func 102) [] []]
theorem fIdx_tab {esz : Nat → Nat} {ea : Nat → Option Bool} {k : Int} (hz : esz 119 = 1) (he : ea 119 = some true) (h0 : 0 ≤ k) (h3 : k ≤ 3) : fIdx esz ea (.agg [.fn (.func 99) [] [], .fn (.func 100) [] [], .fn (.func 101) [] [], .fn (.func 102) [] []]) (.arr 4 119) (i64 k) = some (.pure (.agg [act1 k])) := by
  have hk4 : k = 0 ∨ k = 1 ∨ k = 2 ∨ k = 3 := by omega
  simp only [fIdx, he, hz]
  rcases hk4 with rfl | rfl | rfl | rfl <;> rfl
def inP (b c : Int) (w : Int × Int) : Prop := -b ≤ w.1 ∧ w.1 ≤ b ∧ -c ≤ w.2 ∧ w.2 ≤ c
theorem act_in {rate u b c : Int} {e : Entry} {w : Int × Int} (h : inP b c w) (hw : 0 ≤ u * rate ∧ u * rate ≤ 5000) (hu : 0 ≤ u ∧ u ≤ 50) (hp : -100000 ≤ e.pence ∧ e.pence ≤ 100000) : inP (b + 100000) (c + 50) (actP rate e u w).1 := by
  unfold inP at *
  unfold actP
  split
  · simp only []; omega
  · split
    · simp only []; omega
    · split
      · simp only []; omega
      · simp only []; omega
theorem inP_mono {b b' c c' : Int} {w : Int × Int} (h : inP b c w) (hb : b ≤ b') (hc : c ≤ c') : inP b' c' w := by unfold inP at *; omega
theorem step_inP {ask : Bool} {rate day u b c : Int} {e : Entry} {w : Int × Int} (h : inP b c w) (hw : 0 ≤ u * rate ∧ u * rate ≤ 5000) (hu : 0 ≤ u ∧ u ≤ 50) (hp : -100000 ≤ e.pence ∧ e.pence ≤ 100000) : inP (b + 100000) (c + 50) (stepP ask rate day e u w).1 := by
  unfold stepP
  split
  · exact inP_mono h (by omega) (by omega)
  · split
    · exact inP_mono h (by omega) (by omega)
    · exact act_in h hw hu hp
theorem pad_set {acc : List Int} {v : Int} (h : acc.length < 12) : (pad acc).set acc.length v = pad (acc ++ [v]) := by
  unfold pad
  rw [List.set_append_right _ _ (by omega), Nat.sub_self]
  have : 12 - acc.length = (12 - (acc ++ [v]).length) + 1 := by simp; omega
  rw [this, List.replicate_succ, List.set_cons_zero]
  simp
theorem putCells_gen {α : Type} : ∀ (vs l : List α) (k : Nat), k + vs.length = l.length → putCells l k vs = l.take k ++ vs
  | [], l, k, h => by simp only [putCells, List.append_nil]; rw [List.take_of_length_le (by simpa using Nat.le_of_eq h.symm)]
  | v :: vs, l, k, h => by
    simp only [List.length_cons] at h
    simp only [putCells]
    rw [putCells_gen vs (l.set k v) (k + 1) (by simp; omega)]
    rw [List.take_succ_eq_append_getElem (by simp; omega)]
    simp [List.take_set_of_le]
theorem putCells_all {α : Type} {vs l : List α} (h : vs.length = l.length) : putCells l 0 vs = vs := by
  rw [putCells_gen vs l 0 (by omega)]; rfl
theorem isP_ints (l : List Int) : (AV.agg (l.map i64)).isP = true := by
  show AV.isP.isPL (l.map i64) = true
  induction l with
  | nil => rfl
  | cons x l ih => show (true && AV.isP.isPL (l.map i64)) = true; rw [ih]; rfl
theorem isP_res (l : List Int) (b : Bool) : (AV.tup [.agg (l.map i64), bl b]).isP = true := by
  show ((AV.agg (l.map i64)).isP && (true && true)) = true
  rw [isP_ints]; rfl
theorem viewL_ints {os : Nat → Option AO} : ∀ l : List Int, viewL os (l.map i64) = some (l.map i64)
  | [] => rfl
  | x :: l => by show (match viewC os (i64 x), viewL os (l.map i64) with | some y, some ys => some (y :: ys) | _, _ => none) = _; rw [viewL_ints l]; rfl
theorem nmL_ints {ks : List Nat} : ∀ l : List Int, nmL ks (l.map i64) = true
  | [] => rfl
  | x :: l => by show (true && nmL ks (l.map i64)) = true; rw [nmL_ints l]; rfl
theorem int_in {a : Acc} {w : Int × Int} {b c : Int} (h1 : 0 ≤ a.interest) (h2 : a.interest ≤ 200) (h : inP b c w) : inP (2 * b) c (intP a w) := by
  have := int_bound (d := w.1) h1 h2
  unfold inP intP at *
  simp only []
  omega
theorem pay_in {a : Acc} {paid : List Int} {day : Nat} {w : Int × Int} {b c : Int} (h1 : 0 ≤ a.purse) (h2 : a.purse ≤ 100000) (h : inP b c w) : inP (b + 100000) c (payP a paid day w) := by
  unfold payP
  split
  · unfold inP at *; simp only []; omega
  · exact inP_mono h (by omega) (by omega)
theorem playF_next {a : Acc} {t paid acc : List Int} {ask : Bool} {w v : Int × Int} (hd : dayP ask (rateOn acc.length a.rates 0) acc.length a.entries t (intP a w) = some v) {j : Nat} (hj : j ≤ 8) (hv : inP (2 * bnd acc.length + 100000 * (j : Int)) (600 * (acc.length : Int) + 50 * (j : Int)) v) (hp0 : 0 ≤ a.purse) (hp1 : a.purse ≤ 100000) (hk : (acc.length : Int) ≤ a.last) (h0 : 0 ≤ a.last)
    (hr1 : acc ++ (playF a t paid ask ((a.last + 1).toNat - acc.length) acc.length w).1 = (playS a t paid ask).1) (hr2 : (playF a t paid ask ((a.last + 1).toNat - acc.length) acc.length w).2 = (playS a t paid ask).2) :
    ((acc ++ [(payP a paid acc.length v).1]).length : Int) ≤ a.last + 1 ∧ inP (bnd (acc ++ [(payP a paid acc.length v).1]).length) (600 * ((acc ++ [(payP a paid acc.length v).1]).length : Int)) (payP a paid acc.length v) ∧
    acc ++ [(payP a paid acc.length v).1] ++ (playF a t paid ask ((a.last + 1).toNat - (acc ++ [(payP a paid acc.length v).1]).length) (acc ++ [(payP a paid acc.length v).1]).length (payP a paid acc.length v)).1 = (playS a t paid ask).1 ∧
    (playF a t paid ask ((a.last + 1).toNat - (acc ++ [(payP a paid acc.length v).1]).length) (acc ++ [(payP a paid acc.length v).1]).length (payP a paid acc.length v)).2 = (playS a t paid ask).2 := by
  have key : (a.last + 1).toNat - acc.length = ((a.last + 1).toNat - (acc.length + 1)) + 1 := by omega
  have hl : (acc ++ [(payP a paid acc.length v).1]).length = acc.length + 1 := by simp
  have e := playF_succ a t paid ask ((a.last + 1).toNat - (acc.length + 1)) acc.length w
  rw [hd] at e
  rw [key, e] at hr1 hr2
  rw [hl]
  refine ⟨by omega, ?_, by rw [← hr1]; simp, hr2⟩
  have := pay_in (paid := paid) (day := acc.length) hp0 hp1 hv
  exact inP_mono this (by simp only [bnd]; omega) (by omega)
theorem playF_stop {a : Acc} {t paid acc : List Int} {ask : Bool} {w : Int × Int} (hd : dayP ask (rateOn acc.length a.rates 0) acc.length a.entries t (intP a w) = none) (hk : (acc.length : Int) ≤ a.last) (h0 : 0 ≤ a.last)
    (hr1 : acc ++ (playF a t paid ask ((a.last + 1).toNat - acc.length) acc.length w).1 = (playS a t paid ask).1) (hr2 : (playF a t paid ask ((a.last + 1).toNat - acc.length) acc.length w).2 = (playS a t paid ask).2) :
    (playS a t paid ask).1 = acc ∧ (playS a t paid ask).2 = false := by
  have key : (a.last + 1).toNat - acc.length = ((a.last + 1).toNat - (acc.length + 1)) + 1 := by omega
  have e := playF_succ a t paid ask ((a.last + 1).toNat - (acc.length + 1)) acc.length w
  rw [hd] at e
  rw [key, e] at hr1 hr2
  exact ⟨by rw [← hr1]; simp, hr2.symm⟩
theorem playF_end {a : Acc} {t paid acc : List Int} {ask : Bool} {w : Int × Int} (hk : ¬ (acc.length : Int) < a.last + 1)
    (hr1 : acc ++ (playF a t paid ask ((a.last + 1).toNat - acc.length) acc.length w).1 = (playS a t paid ask).1) (hr2 : (playF a t paid ask ((a.last + 1).toNat - acc.length) acc.length w).2 = (playS a t paid ask).2) :
    (playS a t paid ask).1 = acc ∧ (playS a t paid ask).2 = true := by
  have key : (a.last + 1).toNat - acc.length = 0 := by omega
  rw [key] at hr1 hr2
  exact ⟨by rw [← hr1]; simp [playF], by rw [← hr2]; rfl⟩
theorem stepP_ok {ask : Bool} {rate : Int} {day : Nat} {es : List Entry} {t : List Int} {j : Nat} {v : Int × Int} {R : Option (Int × Int)} {b c : Int} (hd : dayP ask rate day (es.drop j) (t.drop j) v = R) (hv : inP (b + 100000 * (j : Int)) (c + 50 * (j : Int)) v) (hw : 0 ≤ t.getD j 0 * rate ∧ t.getD j 0 * rate ≤ 5000)
    (hu : 0 ≤ t.getD j 0 ∧ t.getD j 0 ≤ 50) (hp : -100000 ≤ (getE es j).pence ∧ (getE es j).pence ≤ 100000) (h1 : j < es.length) (h2 : j < t.length) (hs : (stepP ask rate day (getE es j) (t.getD j 0) v).2 = true) :
    j + 1 ≤ es.length ∧ inP (b + 100000 * ((j + 1 : Nat) : Int)) (c + 50 * ((j + 1 : Nat) : Int)) (stepP ask rate day (getE es j) (t.getD j 0) v).1 ∧ dayP ask rate day (es.drop (j + 1)) (t.drop (j + 1)) (stepP ask rate day (getE es j) (t.getD j 0) v).1 = R := by
  rw [dayP_step h1 h2, if_pos hs] at hd
  refine ⟨h1, ?_, hd⟩
  have e1 : b + 100000 * ((j + 1 : Nat) : Int) = b + 100000 * (j : Int) + 100000 := by omega
  have e2 : c + 50 * ((j + 1 : Nat) : Int) = c + 50 * (j : Int) + 50 := by omega
  rw [e1, e2]
  exact step_inP hv hw hu hp
theorem stepP_bad {ask : Bool} {rate : Int} {day : Nat} {es : List Entry} {t : List Int} {j : Nat} {v : Int × Int} {R : Option (Int × Int)} (hd : dayP ask rate day (es.drop j) (t.drop j) v = R) (h1 : j < es.length) (h2 : j < t.length) (hs : (stepP ask rate day (getE es j) (t.getD j 0) v).2 = false) : R = none := by
  rw [dayP_step h1 h2, if_neg (by rw [hs]; simp)] at hd
  exact hd.symm
theorem stepP_skip {ask : Bool} {rate day u : Int} {e : Entry} {w : Int × Int} (h : ¬ e.day = day ∨ (e.kind = 3 ∧ ask = false)) : stepP ask rate day e u w = (w, true) := by
  unfold stepP
  split
  · rfl
  · rw [if_pos (by rcases h with h | h; · exact absurd h (by assumption)
                   · exact h)]
theorem stepP_act {ask : Bool} {rate day u : Int} {e : Entry} {w : Int × Int} (h : e.day = day) (h2 : ¬ (e.kind = 3 ∧ ask = false)) : stepP ask rate day e u w = actP rate e u w := by
  unfold stepP
  rw [if_neg (by omega), if_neg h2]
theorem kM_in {e : Entry} {n : Int} (hk : 0 ≤ e.kind ∧ e.kind ≤ 3) (hp : -100000 ≤ e.pence ∧ e.pence ≤ 100000) (hlo : 0 ≤ e.lo ∧ e.lo ≤ 50) (hhi : 0 ≤ e.hi ∧ e.hi ≤ 50) (hd : 0 ≤ e.day ∧ e.day ≤ 11) (hn : 0 ≤ n ∧ n ≤ 50) : (kM e n).all inR = true := by
  simp only [List.all_cons, List.all_nil, inR, Bool.and_true, Bool.and_eq_true, decide_eq_true_eq]; omega
theorem pad_take {acc : List Int} (h : acc.length ≤ 12) : List.take 12 (List.map i64 (pad acc)) = List.map i64 (pad acc) := List.take_of_length_le (by rw [List.length_map, pad_len h]; exact Nat.le_refl _)
theorem dayP_done {ask : Bool} {rate day : Int} {es : List Entry} {t : List Int} {j : Nat} {v : Int × Int} {R : Option (Int × Int)} (h : es.length ≤ j) (hd : dayP ask rate day (es.drop j) (t.drop j) v = R) : R = some v := by
  rw [dayP_end h] at hd; exact hd.symm
theorem intP_pos {a : Acc} {w : Int × Int} (h : 0 < w.1) : intP a w = (w.1 + (w.1 * a.interest + 10000 - 1) / 10000, w.2) := by
  unfold intP intS; rw [if_neg (by omega), show w.1 * a.interest + 10000 - 1 = w.1 * a.interest + 9999 by omega]
theorem intP_neg {a : Acc} {w : Int × Int} (h : ¬ 0 < w.1) : intP a w = w := by
  unfold intP intS; rw [if_pos (by omega)]; simp
theorem payP_in {a : Acc} {paid : List Int} {day : Nat} {w : Int × Int} (h : (day : Int) ∈ paid) : payP a paid day w = (w.1 - a.purse, w.2) := if_pos h
theorem payP_out {a : Acc} {paid : List Int} {day : Nat} {w : Int × Int} (h : ¬ (day : Int) ∈ paid) : payP a paid day w = w := if_neg h
theorem c59 (a : Acc) (t paid : List Int) (ask : Bool) (hf : FitP a t) (hp : paid.length < 1000000) : PCall Go.Proofs.Try.prog 59 [avA a, isl t, isl paid, bl ask] (.tup [.agg ((pad (playS a t paid ask).1).map i64), bl (playS a t paid ask).2]) := by
  refine pcall_mk (v := []) (q := []) (N := 103) (rs := [.cell 8 95, .tmp 9]) Go.Proofs.Try.func59 rfl rfl rfl rfl (isP_res _ _) ?_
  have hb0 := bnd_lo
  obtain ⟨last0, last1, int0, int1, purse0, purse1, hlen, lenE, lenR, hrate, hunit, hent⟩ := hf
  refine awp_seq_k fun K1 hK1 => ?_
  refine awp_ops ?_
  simp (disch := omega) only [amL, amT, sA, sB, sF, ↓reduceIte]
  refine hK1 _ ?_
  refine awp_seq_k fun K2 hK2 => ?_
  refine awp_ops ?_
  simp (disch := omega) only [amL, amT, sA, sB, sF, ↓reduceIte]
  refine EMm_intro 6 (worthS a.rates) (by decide) rfl ?_
  simp (disch := omega) only [amL, amT, sA, sB, sE, sF, ↓reduceIte]
  all_goals
   skip
   refine hK2 _ ?_
   refine awp_seq_k fun K3 hK3 => ?_
   refine awp_seq_k fun K4 hK4 => ?_
   refine awp_ops ?_
   simp (disch := omega) only [amL, amT, sA, sF, ↓reduceIte, reduceCtorEq]
   refine hK4 _ ?_
   refine awp_block ?_
   skip
   refine awp_loop_k (α := List Int × (Int × Int)) (fun x => ⟨T [(1, isl t), (2, isl paid), (3, bl ask), (4, .ptr 4 0), (8, .ptr 8 0), (10, .ptr 17 0), (20, i64 (a.last + 1)), (21, i64 x.1.length)], O [(4, .cells (cA a)), (8, .cells ((pad x.1).map i64)), (15, .obj (MemoO 6 (worthS a.rates))), (17, .cells (cW a x.2.1 x.2.2 15))]⟩) (fun x => (a.last + 1).toNat - x.1.length) (fun x => (x.1.length : Int) ≤ a.last + 1 ∧ inP (bnd x.1.length) (600 * (x.1.length : Int)) x.2 ∧ x.1 ++ (playF a t paid ask ((a.last + 1).toNat - x.1.length) x.1.length x.2).1 = (playS a t paid ask).1 ∧ (playF a t paid ask ((a.last + 1).toNat - x.1.length) x.1.length x.2).2 = (playS a t paid ask).2) ([], (0, 0)) ?_ ?_ (fun x hx5 K5 hK5 => ?_)
   · exact ⟨by simp; omega, by simp [bnd, inP], rfl, rfl⟩
   · refine le_mk ?_ ?_ ?_ ?_ <;> (try simp (disch := omega) only [nmL_ints, amL, sF, sG, ↓reduceIte, reduceCtorEq]) <;> (first | done | rfl)
   obtain ⟨acc, w⟩ := x; dsimp only at hx5 ⊢; obtain ⟨hk, hw0, hr1, hr2⟩ := hx5; have hw := hw0; unfold inP at hw; have hbh := bnd_hi (d := acc.length) (by omega)
   refine awp_seq_k fun K6 hK6 => ?_
   refine awp_ops ?_
   simp (disch := omega) only [amL, amT, sA, sF, ↓reduceIte]
   refine hK6 _ ?_
   refine awp_seq_k fun K7 hK7 => ?_
   refine awp_cond rfl (fun h => ?_) (fun h => ?_)
   ·first
    | exact Bool.noConfusion h
    |skip
     try simp only [decide_eq_true_eq] at h
     refine awp_skip ?_
     refine hK7 _ ?_
     refine awp_seq_k fun K8 hK8 => ?_
     refine awp_block ?_
     refine awp_seq_k fun K9 hK9 => ?_
     refine awp_ops ?_
     simp (disch := omega) only [amL, sA, sF, ↓reduceIte]
     refine hK9 _ ?_
     refine awp_seq_k fun K10 hK10 => ?_
     refine awp_seq_k fun K11 hK11 => ?_
     refine awp_ops ?_
     simp (disch := omega) only [amL, amT, sA, sF, ↓reduceIte, reduceCtorEq]
     refine hK11 _ ?_
     refine awp_cond rfl (fun h => ?_) (fun h => ?_)
     ·first
      | exact Bool.noConfusion h
      |skip
       try simp only [decide_eq_true_eq] at h
       refine awp_any2 (by kernel_rfl) (by kernel_rfl) ?_
       have hi1 := int_bound (d := w.1) int0 int1
       have hm2 := mul_bound (show 0 ≤ w.1 by omega) (show w.1 ≤ 1000000000000 by omega) int0 (show a.interest ≤ 1000 by omega)
       simp (disch := omega) only [amL, amT, sA, sB, sE, sF, sO, ↓reduceIte, reduceCtorEq]
       refine hK10 _ ?_
       refine awp_seq_k fun K12 hK12 => ?_
       refine awp_seq_k fun K13 hK13 => ?_
       refine awp_ops ?_
       simp (disch := omega) only [amL, amT, sA, sF, ↓reduceIte, reduceCtorEq]
       refine hK13 _ ?_
       refine awp_block ?_
       skip
       refine awp_loop_k (α := Nat × (Int × Int)) (fun y => ⟨T [(1, isl t), (2, isl paid), (3, bl ask), (4, .ptr 4 0), (8, .ptr 8 0), (10, .ptr 17 0), (20, i64 (a.last + 1)), (21, i64 acc.length), (11, i64 acc.length), (47, .p (.sl (a.entries.map encE))), (48, i64 a.entries.length), (49, i64 y.1)], O [(4, .cells (cA a)), (8, .cells ((pad acc).map i64)), (15, .obj (MemoO 6 (worthS a.rates))), (17, .cells (cW a y.2.1 y.2.2 15))]⟩) (fun y => a.entries.length - y.1) (fun y => y.1 ≤ a.entries.length ∧ inP (2 * bnd acc.length + 100000 * (y.1 : Int)) (600 * (acc.length : Int) + 50 * (y.1 : Int)) y.2 ∧ dayP ask (rateOn acc.length a.rates 0) acc.length (a.entries.drop y.1) (t.drop y.1) y.2 = dayP ask (rateOn acc.length a.rates 0) acc.length a.entries t (intP a w)) (0, intP a w) ?_ ?_ (fun y hx14 K14 hK14 => ?_)
       · exact ⟨by simp, inP_mono (int_in int0 int1 hw0) (by simp) (by simp), by simp⟩
       · refine le_mk ?_ ?_ ?_ ?_ <;> (try simp (disch := omega) only [nmL_ints, amL, sF, sG, ↓reduceIte]) <;> (first | done | (rw [intP_pos (by omega)]; done) | (rw [intP_neg (by omega)]; done) | (rw [intP_pos (by omega)]; congr 3; omega) | (omega))
       obtain ⟨j, v⟩ := y; dsimp only at hx14 ⊢; obtain ⟨hj, hv0, hd⟩ := hx14; have hv := hv0; unfold inP at hv
       refine awp_seq_k fun K15 hK15 => ?_
       refine awp_ops ?_
       simp (disch := omega) only [amL, amT, sA, sF, ↓reduceIte]
       refine hK15 _ ?_
       refine awp_seq_k fun K16 hK16 => ?_
       refine awp_cond rfl (fun h => ?_) (fun h => ?_)
       ·first
        | exact Bool.noConfusion h
        |skip
         try simp only [decide_eq_true_eq] at h
         refine awp_skip ?_
         refine hK16 _ ?_
         refine awp_seq_k fun K17 hK17 => ?_
         refine awp_block ?_
         refine awp_seq_k fun K18 hK18 => ?_
         refine awp_ops ?_
         simp (disch := omega) only [encE_getD, amL, amT, sA, sB, sF, ↓reduceIte]
         refine hK18 _ ?_
         refine awp_seq_k fun K19 hK19 => ?_
         refine awp_seq_k fun K20 hK20 => ?_
         refine awp_ops ?_
         have hj2 : j < a.entries.length := by omega
         obtain ⟨hk3, hpe, hlo, hhi, hda⟩ := hent j hj2
         have hu := hunit j (by omega)
         have hra := hrate acc.length
         have hwo := worth_bound hu.1 hu.2 hra.1 hra.2
         simp (disch := omega) only [ne_eq, amL, amT, sA, sF, ↓reduceIte, reduceCtorEq]
         repeat' first | (refine EG_dec (fun h => ?_) (fun h => ?_) <;> simp (disch := omega) only [h, amL, amT, sA, sF, ↓reduceIte, reduceCtorEq]) | (refine EG_cases (fun h => ?_) (fun h => ?_) <;> simp (disch := omega) only [h, ne_eq, encE_getD, nmL_ints, viewL_ints, EO_index, amL, amT, sA, sB, sC, sD, sE, sF, sG, sH, sI, sJ, sK, sL, sM, sN, sO, ↓reduceIte, reduceCtorEq])
         all_goals
          skip
          refine hK20 _ ?_
          refine awp_cond rfl (fun h => ?_) (fun h => ?_)
          ·first
           | exact Bool.noConfusion h
           |skip
            try simp only [Bool.not_eq_true'] at h
            refine awp_exit ?_
            refine hK17 _ ?_
            refine awp_ops ?_
            simp (disch := omega) only [amL, amT, sA, sF, ↓reduceIte]
            refine hK14 (j + 1, (stepP ask (rateOn acc.length a.rates 0) acc.length (getE a.entries j) (t.getD j 0) v).1) _ ?_ ?_ (le_mk ?_ ?_ ?_ ?_)
            all_goals (try simp (disch := omega) only [nmL_ints, amL, sF, sG, ↓reduceIte])
            all_goals first | omega | exact stepP_ok hd hv0 hwo hu hpe (by omega) (by omega) (by rw [stepP_skip (by first | (left; omega) | (right; exact ⟨by assumption, by assumption⟩))]) | exact stepP_ok hd hv0 hwo hu hpe (by omega) (by omega) (by assumption) | (rw [stepP_skip (by first | (left; omega) | (right; exact ⟨by assumption, by assumption⟩))]; done) | (omega)
          ·first
           | exact Bool.noConfusion h
           |skip
            try simp only [Bool.not_eq_false'] at h
            refine awp_skip ?_
            refine hK19 _ ?_
            refine awp_seq_k fun K21 hK21 => ?_
            refine awp_any2 (by kernel_rfl) (by kernel_rfl) ?_
            have hday : (getE a.entries j).day = (acc.length : Int) := by omega
            have hna : ¬ ((getE a.entries j).kind = 3 ∧ ask = false) := by
              rintro ⟨g1, g2⟩
              first | omega | (subst g2; contradiction)
            have hix : fIdx (fun e => (tyOf Go.Proofs.Try.prog e).sz) (fun e => (tyOf Go.Proofs.Try.prog e).agg) (.agg [.fn (.func 99) [] [], .fn (.func 100) [] [], .fn (.func 101) [] [], .fn (.func 102) [] []]) (.arr 4 119) (i64 (getE a.entries j).kind) = some (.pure (.agg [act1 (getE a.entries j).kind])) := fIdx_tab (by simp only [ty119]) (by simp only [ty119]; rfl) hk3.1 hk3.2
            have hix3 : fIdx (fun e => (tyOf Go.Proofs.Try.prog e).sz) (fun e => (tyOf Go.Proofs.Try.prog e).agg) (.agg [.fn (.func 99) [] [], .fn (.func 100) [] [], .fn (.func 101) [] [], .fn (.func 102) [] []]) (.arr 4 119) (i64 3) = some (.pure (.agg [act1 3])) := fIdx_tab (by simp only [ty119]) (by simp only [ty119]; rfl) (by omega) (by omega)
            have he3 : (getE a.entries j).kind = 3 → ({ kind := 3, day := (getE a.entries j).day, lo := (getE a.entries j).lo, hi := (getE a.entries j).hi, pence := (getE a.entries j).pence } : Entry) = getE a.entries j := fun h => by rw [← h]
            have hkr := kM_in hk3 hpe hlo hhi hda hu
            have hrw : actP (rateOn (getE a.entries j).day a.rates 0) (getE a.entries j) (t.getD j 0) (v.1, v.2) = stepP ask (rateOn acc.length a.rates 0) acc.length (getE a.entries j) (t.getD j 0) v := by rw [stepP_act hday hna, hday]
            have hrw3 : (getE a.entries j).kind = 3 → actP (rateOn (getE a.entries j).day a.rates 0) { kind := 3, day := (getE a.entries j).day, lo := (getE a.entries j).lo, hi := (getE a.entries j).hi, pence := (getE a.entries j).pence } (t.getD j 0) (v.1, v.2) = stepP ask (rateOn acc.length a.rates 0) acc.length (getE a.entries j) (t.getD j 0) v := fun h => by rw [he3 h]; exact hrw
            simp (disch := omega) only [amL]
            repeat' first | (refine EC_intro (by kernel_rfl) rfl (c82) (by first | exact .inl rfl | exact .inr (.inl rfl)) ?_ ; simp (disch := omega) only [hix, hix3, EO_index, amL, amT, sA, sB, sE, sF, ↓reduceIte, reduceCtorEq])
            try (have h3 : (getE a.entries j).kind = 3 := by omega)
            first | (refine EV_intro2 [(1, isl t), (2, isl paid), (3, bl ask), (4, .ptr 4 0), (8, .ptr 8 0), (10, .ptr 17 0), (20, i64 (a.last + 1)), (21, i64 acc.length), (11, i64 acc.length), (47, .p (.sl (a.entries.map encE))), (48, i64 a.entries.length), (49, i64 j)] (by decide) (cAct (w := 17) (m := 15) (d := v.1) (u := v.2) (e := getE a.entries j) (n := t.getD j 0) (bd := 103) lenR hkr hk3 (by omega) hpe (by omega) hu (hrate _) rfl rfl) (T_get_none rfl) (by decide) (fun res os2 hR hcl2 hlv2 => ?_); obtain ⟨rfl, rfl⟩ := hR; simp only [hrw]) | (refine EV_intro2 [(1, isl t), (2, isl paid), (3, bl ask), (4, .ptr 4 0), (8, .ptr 8 0), (10, .ptr 17 0), (20, i64 (a.last + 1)), (21, i64 acc.length), (11, i64 acc.length), (47, .p (.sl (a.entries.map encE))), (48, i64 a.entries.length), (49, i64 j)] (by decide) (cAct (w := 17) (m := 15) (d := v.1) (u := v.2) (e := ⟨3, (getE a.entries j).day, (getE a.entries j).lo, (getE a.entries j).hi, (getE a.entries j).pence⟩) (n := t.getD j 0) (bd := 103) lenR (by rw [he3 h3]; exact hkr) ⟨show (0 : Int) ≤ 3 by omega, show (3 : Int) ≤ 3 by omega⟩ (by omega) hpe (by omega) hu (hrate _) rfl rfl) (T_get_none rfl) (by decide) (fun res os2 hR hcl2 hlv2 => ?_); obtain ⟨rfl, rfl⟩ := hR; simp only [hrw3 h3])
            simp (disch := omega) only [amL, sA, sF, ↓reduceIte]
            refine hK21 _ ?_
            refine awp_cond rfl (fun h => ?_) (fun h => ?_)
            ·first
             | exact Bool.noConfusion h
             |skip
              try simp only [Bool.not_eq_true'] at h
              refine awp_seq_k fun K22 hK22 => ?_
              refine awp_ops ?_
              have hpl := pad_len (l := acc) (by omega)
              have htk := pad_take (acc := acc) (by omega)
              have hpc := putCells_all (vs := List.map i64 (pad acc)) (l := List.map i64 (pad acc)) rfl
              simp (disch := omega) only [hpl, htk, hpc, amL, amT, sA, sF, ↓reduceIte]
              refine hK22 _ ?_
              refine awp_ret ?_
              try simp (disch := omega) only [amL, amT, sF, ↓reduceIte]
              simp only [htk, viewL_ints, Option.map_some, oc2R_some]
              first | (obtain ⟨g1, g2⟩ := playF_stop (stepP_bad hd hj2 (by omega) (by assumption)) (by omega) last0 hr1 hr2; rw [g1, g2]; done) | (obtain ⟨g1, g2⟩ := playF_end (by omega) hr1 hr2; rw [g1, g2]; done) | (omega)
            ·first
             | exact Bool.noConfusion h
             |skip
              try simp only [Bool.not_eq_false'] at h
              refine awp_skip ?_
              refine hK17 _ ?_
              refine awp_ops ?_
              simp (disch := omega) only [amL, amT, sA, sF, ↓reduceIte]
              refine hK14 (j + 1, (stepP ask (rateOn acc.length a.rates 0) acc.length (getE a.entries j) (t.getD j 0) v).1) _ ?_ ?_ (le_mk ?_ ?_ ?_ ?_)
              all_goals (try simp (disch := omega) only [nmL_ints, amL, sF, sG, ↓reduceIte])
              all_goals first | omega | exact stepP_ok hd hv0 hwo hu hpe (by omega) (by omega) (by rw [stepP_skip (by first | (left; omega) | (right; exact ⟨by assumption, by assumption⟩))]) | exact stepP_ok hd hv0 hwo hu hpe (by omega) (by omega) (by assumption) | (rw [stepP_skip (by first | (left; omega) | (right; exact ⟨by assumption, by assumption⟩))]; done) | (omega)
       ·first
        | exact Bool.noConfusion h
        |skip
         try simp only [decide_eq_false_iff_not] at h
         refine awp_exit ?_
         refine hK12 _ ?_
         refine awp_seq_k fun K23 hK23 => ?_
         refine awp_seq_k fun K24 hK24 => ?_
         refine awp_ops ?_
         have hd2 := dayP_done (by omega) hd
         simp (disch := omega) only [amL, sA, sF, ↓reduceIte]
         repeat' first | (refine EC_intro (by kernel_rfl) rfl (c83 paid _ hp) (by first | exact .inl rfl | exact .inr (.inl rfl)) ?_ ; simp (disch := omega) only [amL])
         refine hK24 _ ?_
         refine awp_cond rfl (fun h => ?_) (fun h => ?_)
         ·first
          | exact Bool.noConfusion h
          |skip
           try simp only [decide_eq_true_eq] at h
           refine awp_any2 (by kernel_rfl) (by kernel_rfl) ?_
           simp (disch := omega) only [amL, amT, sA, sB, sE, sF, ↓reduceIte, reduceCtorEq]
           refine hK23 _ ?_
           refine awp_ops ?_
           have hpl := pad_len (l := acc) (by omega)
           simp (disch := omega) only [hpl, amL, amT, sA, sE, sF, sH, ↓reduceIte, reduceCtorEq]
           refine hK8 _ ?_
           refine awp_ops ?_
           simp (disch := omega) only [amL, amT, sA, sF, ↓reduceIte]
           refine hK5 (acc ++ [(payP a paid acc.length v).1], payP a paid acc.length v) _ ?_ ?_ (le_mk ?_ ?_ ?_ ?_)
           all_goals (try simp (disch := omega) only [nmL_ints, amL, sF, sG, ↓reduceIte])
           all_goals first | exact playF_next hd2 (j := j) (by omega) hv0 purse0 purse1 (by omega) last0 hr1 hr2 | (rw [List.length_append]; rfl) | (simp; omega) | (rw [payP_in h]; exact ⟨by rw [← pad_set (by omega), List.map_set], rfl⟩) | (rw [payP_out h]; exact ⟨by rw [← pad_set (by omega), List.map_set], rfl⟩) | (omega)
         ·first
          | exact Bool.noConfusion h
          |skip
           try simp only [decide_eq_false_iff_not] at h
           refine awp_skip ?_
           refine hK23 _ ?_
           refine awp_ops ?_
           have hpl := pad_len (l := acc) (by omega)
           simp (disch := omega) only [hpl, amL, amT, sA, sE, sF, sH, ↓reduceIte, reduceCtorEq]
           refine hK8 _ ?_
           refine awp_ops ?_
           simp (disch := omega) only [amL, amT, sA, sF, ↓reduceIte]
           refine hK5 (acc ++ [(payP a paid acc.length v).1], payP a paid acc.length v) _ ?_ ?_ (le_mk ?_ ?_ ?_ ?_)
           all_goals (try simp (disch := omega) only [nmL_ints, amL, sF, sG, ↓reduceIte])
           all_goals first | exact playF_next hd2 (j := j) (by omega) hv0 purse0 purse1 (by omega) last0 hr1 hr2 | (rw [List.length_append]; rfl) | (simp; omega) | (rw [payP_in h]; exact ⟨by rw [← pad_set (by omega), List.map_set], rfl⟩) | (rw [payP_out h]; exact ⟨by rw [← pad_set (by omega), List.map_set], rfl⟩) | (omega)
     ·first
      | exact Bool.noConfusion h
      |skip
       try simp only [decide_eq_false_iff_not] at h
       refine awp_skip ?_
       refine hK10 _ ?_
       refine awp_seq_k fun K25 hK25 => ?_
       refine awp_seq_k fun K26 hK26 => ?_
       refine awp_ops ?_
       simp (disch := omega) only [amL, amT, sA, sF, ↓reduceIte, reduceCtorEq]
       refine hK26 _ ?_
       refine awp_block ?_
       skip
       refine awp_loop_k (α := Nat × (Int × Int)) (fun y => ⟨T [(1, isl t), (2, isl paid), (3, bl ask), (4, .ptr 4 0), (8, .ptr 8 0), (10, .ptr 17 0), (20, i64 (a.last + 1)), (21, i64 acc.length), (11, i64 acc.length), (47, .p (.sl (a.entries.map encE))), (48, i64 a.entries.length), (49, i64 y.1)], O [(4, .cells (cA a)), (8, .cells ((pad acc).map i64)), (15, .obj (MemoO 6 (worthS a.rates))), (17, .cells (cW a y.2.1 y.2.2 15))]⟩) (fun y => a.entries.length - y.1) (fun y => y.1 ≤ a.entries.length ∧ inP (2 * bnd acc.length + 100000 * (y.1 : Int)) (600 * (acc.length : Int) + 50 * (y.1 : Int)) y.2 ∧ dayP ask (rateOn acc.length a.rates 0) acc.length (a.entries.drop y.1) (t.drop y.1) y.2 = dayP ask (rateOn acc.length a.rates 0) acc.length a.entries t (intP a w)) (0, intP a w) ?_ ?_ (fun y hx27 K27 hK27 => ?_)
       · exact ⟨by simp, inP_mono (int_in int0 int1 hw0) (by simp) (by simp), by simp⟩
       · refine le_mk ?_ ?_ ?_ ?_ <;> (try simp (disch := omega) only [nmL_ints, amL, sF, sG, ↓reduceIte]) <;> (first | done | (rw [intP_pos (by omega)]; done) | (rw [intP_neg (by omega)]; done) | (rw [intP_pos (by omega)]; congr 3; omega) | (omega))
       obtain ⟨j, v⟩ := y; dsimp only at hx27 ⊢; obtain ⟨hj, hv0, hd⟩ := hx27; have hv := hv0; unfold inP at hv
       refine awp_seq_k fun K28 hK28 => ?_
       refine awp_ops ?_
       simp (disch := omega) only [amL, amT, sA, sF, ↓reduceIte]
       refine hK28 _ ?_
       refine awp_seq_k fun K29 hK29 => ?_
       refine awp_cond rfl (fun h => ?_) (fun h => ?_)
       ·first
        | exact Bool.noConfusion h
        |skip
         try simp only [decide_eq_true_eq] at h
         refine awp_skip ?_
         refine hK29 _ ?_
         refine awp_seq_k fun K30 hK30 => ?_
         refine awp_block ?_
         refine awp_seq_k fun K31 hK31 => ?_
         refine awp_ops ?_
         simp (disch := omega) only [encE_getD, amL, amT, sA, sB, sF, ↓reduceIte]
         refine hK31 _ ?_
         refine awp_seq_k fun K32 hK32 => ?_
         refine awp_seq_k fun K33 hK33 => ?_
         refine awp_ops ?_
         have hj2 : j < a.entries.length := by omega
         obtain ⟨hk3, hpe, hlo, hhi, hda⟩ := hent j hj2
         have hu := hunit j (by omega)
         have hra := hrate acc.length
         have hwo := worth_bound hu.1 hu.2 hra.1 hra.2
         simp (disch := omega) only [ne_eq, amL, amT, sA, sF, ↓reduceIte, reduceCtorEq]
         repeat' first | (refine EG_dec (fun h => ?_) (fun h => ?_) <;> simp (disch := omega) only [h, amL, amT, sA, sF, ↓reduceIte, reduceCtorEq]) | (refine EG_cases (fun h => ?_) (fun h => ?_) <;> simp (disch := omega) only [h, ne_eq, encE_getD, nmL_ints, viewL_ints, EO_index, amL, amT, sA, sB, sC, sD, sE, sF, sG, sH, sI, sJ, sK, sL, sM, sN, sO, ↓reduceIte, reduceCtorEq])
         all_goals
          skip
          refine hK33 _ ?_
          refine awp_cond rfl (fun h => ?_) (fun h => ?_)
          ·first
           | exact Bool.noConfusion h
           |skip
            try simp only [Bool.not_eq_true'] at h
            refine awp_exit ?_
            refine hK30 _ ?_
            refine awp_ops ?_
            simp (disch := omega) only [amL, amT, sA, sF, ↓reduceIte]
            refine hK27 (j + 1, (stepP ask (rateOn acc.length a.rates 0) acc.length (getE a.entries j) (t.getD j 0) v).1) _ ?_ ?_ (le_mk ?_ ?_ ?_ ?_)
            all_goals (try simp (disch := omega) only [nmL_ints, amL, sF, sG, ↓reduceIte])
            all_goals first | omega | exact stepP_ok hd hv0 hwo hu hpe (by omega) (by omega) (by rw [stepP_skip (by first | (left; omega) | (right; exact ⟨by assumption, by assumption⟩))]) | exact stepP_ok hd hv0 hwo hu hpe (by omega) (by omega) (by assumption) | (rw [stepP_skip (by first | (left; omega) | (right; exact ⟨by assumption, by assumption⟩))]; done) | (omega)
          ·first
           | exact Bool.noConfusion h
           |skip
            try simp only [Bool.not_eq_false'] at h
            refine awp_skip ?_
            refine hK32 _ ?_
            refine awp_seq_k fun K34 hK34 => ?_
            refine awp_any2 (by kernel_rfl) (by kernel_rfl) ?_
            have hday : (getE a.entries j).day = (acc.length : Int) := by omega
            have hna : ¬ ((getE a.entries j).kind = 3 ∧ ask = false) := by
              rintro ⟨g1, g2⟩
              first | omega | (subst g2; contradiction)
            have hix : fIdx (fun e => (tyOf Go.Proofs.Try.prog e).sz) (fun e => (tyOf Go.Proofs.Try.prog e).agg) (.agg [.fn (.func 99) [] [], .fn (.func 100) [] [], .fn (.func 101) [] [], .fn (.func 102) [] []]) (.arr 4 119) (i64 (getE a.entries j).kind) = some (.pure (.agg [act1 (getE a.entries j).kind])) := fIdx_tab (by simp only [ty119]) (by simp only [ty119]; rfl) hk3.1 hk3.2
            have hix3 : fIdx (fun e => (tyOf Go.Proofs.Try.prog e).sz) (fun e => (tyOf Go.Proofs.Try.prog e).agg) (.agg [.fn (.func 99) [] [], .fn (.func 100) [] [], .fn (.func 101) [] [], .fn (.func 102) [] []]) (.arr 4 119) (i64 3) = some (.pure (.agg [act1 3])) := fIdx_tab (by simp only [ty119]) (by simp only [ty119]; rfl) (by omega) (by omega)
            have he3 : (getE a.entries j).kind = 3 → ({ kind := 3, day := (getE a.entries j).day, lo := (getE a.entries j).lo, hi := (getE a.entries j).hi, pence := (getE a.entries j).pence } : Entry) = getE a.entries j := fun h => by rw [← h]
            have hkr := kM_in hk3 hpe hlo hhi hda hu
            have hrw : actP (rateOn (getE a.entries j).day a.rates 0) (getE a.entries j) (t.getD j 0) (v.1, v.2) = stepP ask (rateOn acc.length a.rates 0) acc.length (getE a.entries j) (t.getD j 0) v := by rw [stepP_act hday hna, hday]
            have hrw3 : (getE a.entries j).kind = 3 → actP (rateOn (getE a.entries j).day a.rates 0) { kind := 3, day := (getE a.entries j).day, lo := (getE a.entries j).lo, hi := (getE a.entries j).hi, pence := (getE a.entries j).pence } (t.getD j 0) (v.1, v.2) = stepP ask (rateOn acc.length a.rates 0) acc.length (getE a.entries j) (t.getD j 0) v := fun h => by rw [he3 h]; exact hrw
            simp (disch := omega) only [amL]
            repeat' first | (refine EC_intro (by kernel_rfl) rfl (c82) (by first | exact .inl rfl | exact .inr (.inl rfl)) ?_ ; simp (disch := omega) only [hix, hix3, EO_index, amL, amT, sA, sB, sE, sF, ↓reduceIte, reduceCtorEq])
            try (have h3 : (getE a.entries j).kind = 3 := by omega)
            first | (refine EV_intro2 [(1, isl t), (2, isl paid), (3, bl ask), (4, .ptr 4 0), (8, .ptr 8 0), (10, .ptr 17 0), (20, i64 (a.last + 1)), (21, i64 acc.length), (11, i64 acc.length), (47, .p (.sl (a.entries.map encE))), (48, i64 a.entries.length), (49, i64 j)] (by decide) (cAct (w := 17) (m := 15) (d := v.1) (u := v.2) (e := getE a.entries j) (n := t.getD j 0) (bd := 103) lenR hkr hk3 (by omega) hpe (by omega) hu (hrate _) rfl rfl) (T_get_none rfl) (by decide) (fun res os2 hR hcl2 hlv2 => ?_); obtain ⟨rfl, rfl⟩ := hR; simp only [hrw]) | (refine EV_intro2 [(1, isl t), (2, isl paid), (3, bl ask), (4, .ptr 4 0), (8, .ptr 8 0), (10, .ptr 17 0), (20, i64 (a.last + 1)), (21, i64 acc.length), (11, i64 acc.length), (47, .p (.sl (a.entries.map encE))), (48, i64 a.entries.length), (49, i64 j)] (by decide) (cAct (w := 17) (m := 15) (d := v.1) (u := v.2) (e := ⟨3, (getE a.entries j).day, (getE a.entries j).lo, (getE a.entries j).hi, (getE a.entries j).pence⟩) (n := t.getD j 0) (bd := 103) lenR (by rw [he3 h3]; exact hkr) ⟨show (0 : Int) ≤ 3 by omega, show (3 : Int) ≤ 3 by omega⟩ (by omega) hpe (by omega) hu (hrate _) rfl rfl) (T_get_none rfl) (by decide) (fun res os2 hR hcl2 hlv2 => ?_); obtain ⟨rfl, rfl⟩ := hR; simp only [hrw3 h3])
            simp (disch := omega) only [amL, sA, sF, ↓reduceIte]
            refine hK34 _ ?_
            refine awp_cond rfl (fun h => ?_) (fun h => ?_)
            ·first
             | exact Bool.noConfusion h
             |skip
              try simp only [Bool.not_eq_true'] at h
              refine awp_seq_k fun K35 hK35 => ?_
              refine awp_ops ?_
              have hpl := pad_len (l := acc) (by omega)
              have htk := pad_take (acc := acc) (by omega)
              have hpc := putCells_all (vs := List.map i64 (pad acc)) (l := List.map i64 (pad acc)) rfl
              simp (disch := omega) only [hpl, htk, hpc, amL, amT, sA, sF, ↓reduceIte]
              refine hK35 _ ?_
              refine awp_ret ?_
              try simp (disch := omega) only [amL, amT, sF, ↓reduceIte]
              simp only [htk, viewL_ints, Option.map_some, oc2R_some]
              first | (obtain ⟨g1, g2⟩ := playF_stop (stepP_bad hd hj2 (by omega) (by assumption)) (by omega) last0 hr1 hr2; rw [g1, g2]; done) | (obtain ⟨g1, g2⟩ := playF_end (by omega) hr1 hr2; rw [g1, g2]; done) | (omega)
            ·first
             | exact Bool.noConfusion h
             |skip
              try simp only [Bool.not_eq_false'] at h
              refine awp_skip ?_
              refine hK30 _ ?_
              refine awp_ops ?_
              simp (disch := omega) only [amL, amT, sA, sF, ↓reduceIte]
              refine hK27 (j + 1, (stepP ask (rateOn acc.length a.rates 0) acc.length (getE a.entries j) (t.getD j 0) v).1) _ ?_ ?_ (le_mk ?_ ?_ ?_ ?_)
              all_goals (try simp (disch := omega) only [nmL_ints, amL, sF, sG, ↓reduceIte])
              all_goals first | omega | exact stepP_ok hd hv0 hwo hu hpe (by omega) (by omega) (by rw [stepP_skip (by first | (left; omega) | (right; exact ⟨by assumption, by assumption⟩))]) | exact stepP_ok hd hv0 hwo hu hpe (by omega) (by omega) (by assumption) | (rw [stepP_skip (by first | (left; omega) | (right; exact ⟨by assumption, by assumption⟩))]; done) | (omega)
       ·first
        | exact Bool.noConfusion h
        |skip
         try simp only [decide_eq_false_iff_not] at h
         refine awp_exit ?_
         refine hK25 _ ?_
         refine awp_seq_k fun K36 hK36 => ?_
         refine awp_seq_k fun K37 hK37 => ?_
         refine awp_ops ?_
         have hd2 := dayP_done (by omega) hd
         simp (disch := omega) only [amL, sA, sF, ↓reduceIte]
         repeat' first | (refine EC_intro (by kernel_rfl) rfl (c83 paid _ hp) (by first | exact .inl rfl | exact .inr (.inl rfl)) ?_ ; simp (disch := omega) only [amL])
         refine hK37 _ ?_
         refine awp_cond rfl (fun h => ?_) (fun h => ?_)
         ·first
          | exact Bool.noConfusion h
          |skip
           try simp only [decide_eq_true_eq] at h
           refine awp_any2 (by kernel_rfl) (by kernel_rfl) ?_
           simp (disch := omega) only [amL, amT, sA, sB, sE, sF, ↓reduceIte, reduceCtorEq]
           refine hK36 _ ?_
           refine awp_ops ?_
           have hpl := pad_len (l := acc) (by omega)
           simp (disch := omega) only [hpl, amL, amT, sA, sE, sF, sH, ↓reduceIte, reduceCtorEq]
           refine hK8 _ ?_
           refine awp_ops ?_
           simp (disch := omega) only [amL, amT, sA, sF, ↓reduceIte]
           refine hK5 (acc ++ [(payP a paid acc.length v).1], payP a paid acc.length v) _ ?_ ?_ (le_mk ?_ ?_ ?_ ?_)
           all_goals (try simp (disch := omega) only [nmL_ints, amL, sF, sG, ↓reduceIte])
           all_goals first | exact playF_next hd2 (j := j) (by omega) hv0 purse0 purse1 (by omega) last0 hr1 hr2 | (rw [List.length_append]; rfl) | (simp; omega) | (rw [payP_in h]; exact ⟨by rw [← pad_set (by omega), List.map_set], rfl⟩) | (rw [payP_out h]; exact ⟨by rw [← pad_set (by omega), List.map_set], rfl⟩) | (omega)
         ·first
          | exact Bool.noConfusion h
          |skip
           try simp only [decide_eq_false_iff_not] at h
           refine awp_skip ?_
           refine hK36 _ ?_
           refine awp_ops ?_
           have hpl := pad_len (l := acc) (by omega)
           simp (disch := omega) only [hpl, amL, amT, sA, sE, sF, sH, ↓reduceIte, reduceCtorEq]
           refine hK8 _ ?_
           refine awp_ops ?_
           simp (disch := omega) only [amL, amT, sA, sF, ↓reduceIte]
           refine hK5 (acc ++ [(payP a paid acc.length v).1], payP a paid acc.length v) _ ?_ ?_ (le_mk ?_ ?_ ?_ ?_)
           all_goals (try simp (disch := omega) only [nmL_ints, amL, sF, sG, ↓reduceIte])
           all_goals first | exact playF_next hd2 (j := j) (by omega) hv0 purse0 purse1 (by omega) last0 hr1 hr2 | (rw [List.length_append]; rfl) | (simp; omega) | (rw [payP_in h]; exact ⟨by rw [← pad_set (by omega), List.map_set], rfl⟩) | (rw [payP_out h]; exact ⟨by rw [← pad_set (by omega), List.map_set], rfl⟩) | (omega)
   ·first
    | exact Bool.noConfusion h
    |skip
     try simp only [decide_eq_false_iff_not] at h
     refine awp_exit ?_
     refine hK3 _ ?_
     refine awp_seq_k fun K38 hK38 => ?_
     refine awp_ops ?_
     have hpl := pad_len (l := acc) (by omega)
     have htk := pad_take (acc := acc) (by omega)
     have hpc := putCells_all (vs := List.map i64 (pad acc)) (l := List.map i64 (pad acc)) rfl
     simp (disch := omega) only [hpl, htk, hpc, amL, amT, sA, sF, ↓reduceIte]
     refine hK38 _ ?_
     refine awp_ret ?_
     try simp (disch := omega) only [amL, amT, sF, ↓reduceIte]
     simp only [htk, viewL_ints, Option.map_some, oc2R_some]
     first | (obtain ⟨g1, g2⟩ := playF_stop (stepP_bad hd hj2 (by omega) (by assumption)) (by omega) last0 hr1 hr2; rw [g1, g2]; done) | (obtain ⟨g1, g2⟩ := playF_end (by omega) hr1 hr2; rw [g1, g2]; done) | (omega)
end AM.Try
end
/- The abstract machine, part 28: a nil slice given where an empty one may be. -/
section
namespace AM
open Go
theorem PCall.of_nil {P : Program} {f : FuncId} {args : List AV} {res : AV} (i : Nat) (hi : args[i]? = some (.p (.val (.slice none 0 0)))) (h : PCall P f (args.set i (.p (.sl []))) res) : PCall P f args res := by
  refine ⟨h.1, fun θ M w vs hM hsz hrel => h.2 θ M w vs hM (by simpa using hsz) fun j x hj => ?_⟩
  rw [List.getElem?_set] at hj
  split at hj
  · rename_i hij
    split at hj
    · cases hj
      have := hrel i _ hi
      rw [rel_nilslice this] at this
      rw [← hij]
      have e := rel_nilslice (hrel i _ hi)
      rw [e]
      exact .p _ _ .nil
    · cases hj
  · exact hrel j x hj
end AM
end
/- The reference: plans. -/
section
namespace AM.Try
open Go AM AM.Duty
open Nat renaming reduceLT → sA, reduceAdd → sB, reduceMul → sC, reduceSub → sD, reduceLeDiff → sE, reduceEqDiff → sF, reduceBEq → sG
open Int renaming reduceAdd → sH, reduceSub → sI, reduceMul → sJ, reduceLT → sK, reduceLE → sL, reduceNeg → sM, reduceToNat → sN, reduceEq → sO
set_option maxHeartbeats 4000000
def prevI (l : List Int) (k : Nat) : Int := if k = 0 then -1 else l.getD (k - 1) 0
theorem prevI_pos {l : List Int} {k : Nat} (h : 0 < k) : prevI l k = l.getD (k - 1) 0 := by rw [prevI, if_neg (by omega)]
theorem prevI_zero {l : List Int} {k : Nat} (h : ¬ 0 < k) : prevI l k = -1 := by rw [prevI, if_pos (by omega)]
theorem plan_step {last : Int} {l : List Int} {k : Nat} (h : k < l.length) : planS last (prevI l k) (l.drop k) = (decide (prevI l k < l.getD k 0) && (decide (l.getD k 0 ≤ last) && planS last (prevI l (k + 1)) (l.drop (k + 1)))) := by
  rw [drop_getD (d := 0) h]; rfl
theorem plan_end {last p : Int} {l : List Int} {k : Nat} (h : l.length ≤ k) : planS last p (l.drop k) = true := by rw [List.drop_of_length_le h]; rfl
theorem plan_next {last : Int} {l : List Int} {k : Nat} {R : Bool} (h : k < l.length) (h1 : inB (l.getD k 0) 0 last = true) (h2 : 0 < k → ¬ l.getD k 0 ≤ l.getD (k - 1) 0) (hr : planS last (prevI l k) (l.drop k) = R) (_ : -1 ≤ prevI l k) :
    k + 1 ≤ l.length ∧ planS last (prevI l (k + 1)) (l.drop (k + 1)) = R ∧ -1 ≤ prevI l (k + 1) := by
  simp only [inB, Bool.and_eq_true, decide_eq_true_eq] at h1
  rw [plan_step h] at hr
  have e : prevI l k < l.getD k 0 := by
    by_cases hk : 0 < k
    · rw [prevI_pos hk]; have := h2 hk; omega
    · rw [prevI_zero hk]; omega
  rw [decide_eq_true e, decide_eq_true h1.2, Bool.true_and, Bool.true_and] at hr
  exact ⟨h, hr, by rw [prevI_pos (by omega)]; simp only [Nat.add_sub_cancel]; omega⟩
theorem plan_bad {last : Int} {l : List Int} {k : Nat} {R : Bool} (h : k < l.length) (hb : inB (l.getD k 0) 0 last = false ∨ (0 < k ∧ l.getD k 0 ≤ l.getD (k - 1) 0)) (hr : planS last (prevI l k) (l.drop k) = R) (hp : -1 ≤ prevI l k) : R = false := by
  rw [plan_step h] at hr
  rcases hb with hb | ⟨hk, hb⟩
  · simp only [inB, Bool.and_eq_false_iff, decide_eq_false_iff_not] at hb
    rcases hb with hb | hb
    · have : ¬ prevI l k < l.getD k 0 := by omega
      rw [← hr, decide_eq_false this, Bool.false_and]
    · rw [← hr, decide_eq_false hb, Bool.false_and, Bool.and_false]
  · have : ¬ prevI l k < l.getD k 0 := by rw [prevI_pos hk]; omega
    rw [← hr, decide_eq_false this, Bool.false_and]
theorem c39 (a : Acc) (l : List Int) (hl : l.length < 1000000) : PCall Go.Proofs.Try.prog 39 [avA a, isl l] (bl (planS a.last (-1) l)) := by
  refine pcall_mk (v := []) (q := []) (N := 36) (rs := [.tmp 4]) Go.Proofs.Try.func39 rfl rfl rfl rfl rfl ?_
  refine awp_seq_k fun K1 hK1 => ?_
  refine awp_ops ?_
  simp (disch := omega) only [amL, sA, sB, sM, ↓reduceIte]
  refine hK1 _ ?_
  refine awp_seq_k fun K2 hK2 => ?_
  refine awp_seq_k fun K3 hK3 => ?_
  refine awp_ops ?_
  simp (disch := omega) only [amL, sA, sM]
  refine hK3 _ ?_
  refine awp_block ?_
  skip
  refine awp_loop_k (α := Nat) (fun k => ⟨T [(1, isl l), (2, .ptr 2 0), (5, i64 k)], O [(2, .cells (cA a))]⟩) (fun k => l.length - k) (fun k => k ≤ l.length ∧ planS a.last (prevI l k) (l.drop k) = planS a.last (-1) l ∧ -1 ≤ prevI l k) 0 ?_ ?_ (fun k hx4 K4 hK4 => ?_)
  · simp [prevI]
  · refine le_mk ?_ ?_ ?_ ?_ <;> (try simp (disch := omega) only [amL, sF, ↓reduceIte, reduceCtorEq])
  obtain ⟨hk, hr, hp⟩ := hx4
  refine awp_seq_k fun K5 hK5 => ?_
  refine awp_seq_k fun K6 hK6 => ?_
  refine awp_ops ?_
  simp (disch := omega) only [amL, amT, sA, sF, sM, ↓reduceIte]
  refine hK6 _ ?_
  refine awp_cond rfl (fun h => ?_) (fun h => ?_)
  ·first
   | exact Bool.noConfusion h
   |skip
    try simp only [decide_eq_true_eq] at h
    refine awp_skip ?_
    refine hK5 _ ?_
    refine awp_seq_k fun K7 hK7 => ?_
    refine awp_block ?_
    refine awp_seq_k fun K8 hK8 => ?_
    refine awp_any2 (by kernel_rfl) (by kernel_rfl) ?_
    simp (disch := omega) only [amL, amT, sA, sF, sM, ↓reduceIte, reduceCtorEq]
    repeat' first | (refine EG_dec (fun h => ?_) (fun h => ?_) <;> simp (disch := omega) only [h, toNat_pred, amL, amT, sA, sF, sM, ↓reduceIte]) | (refine EG_cases (fun h => ?_) (fun h => ?_) <;> simp (disch := omega) only [h, amL, amT, sA, sF, sM, ↓reduceIte]) | (refine EC_intro (by kernel_rfl) rfl (c48 _ _ _) (by first | exact .inl rfl | exact .inr (.inl rfl)) ?_ ; simp (disch := omega) only [amL, sA, sM, ↓reduceIte])
    all_goals
     skip
     refine hK8 _ ?_
     refine awp_cond rfl (fun h => ?_) (fun h => ?_)
     ·first
      | exact Bool.noConfusion h
      |skip
       try simp only [decide_eq_true_eq] at h
       refine awp_seq_k fun K9 hK9 => ?_
       refine awp_ops ?_
       simp (disch := omega) only [amL, sA, sM]
       refine hK9 _ ?_
       refine awp_ret ?_
       try simp (disch := omega) only [amL, sM, ↓reduceIte]
       all_goals first | (rw [← hr, plan_end (by omega)]; done) | (rw [plan_bad (k := k) (by omega) (by first | (left; simp_all; done) | (right; omega)) hr hp])
     ·first
      | exact Bool.noConfusion h
      |skip
       try simp only [decide_eq_false_iff_not] at h
       refine awp_skip ?_
       refine hK7 _ ?_
       refine awp_ops ?_
       simp (disch := omega) only [amL, amT, sA, sF, sM, ↓reduceIte]
       refine hK4 (k+1) _ ?_ ?_ (le_mk ?_ ?_ ?_ ?_)
       all_goals (try simp (disch := omega) only [amL, sF, ↓reduceIte])
       all_goals first | omega | exact plan_next (by omega) (by simp_all) (fun _ => by omega) hr hp
  ·first
   | exact Bool.noConfusion h
   |skip
    try simp only [decide_eq_false_iff_not] at h
    refine awp_exit ?_
    refine hK2 _ ?_
    refine awp_seq_k fun K10 hK10 => ?_
    refine awp_ops ?_
    simp (disch := omega) only [amL, sA, sM]
    refine hK10 _ ?_
    refine awp_ret ?_
    try simp (disch := omega) only [amL, sM, ↓reduceIte]
    all_goals first | (rw [← hr, plan_end (by omega)]; done) | (rw [plan_bad (k := k) (by omega) (by first | (left; simp_all; done) | (right; omega)) hr hp])
end AM.Try
end
/- A valid account's lists of units fit. -/
section
namespace AM.Try
open Go AM AM.Duty
open Nat renaming reduceLT → sA, reduceAdd → sB, reduceMul → sC, reduceSub → sD, reduceLeDiff → sE, reduceEqDiff → sF, reduceBEq → sG
open Int renaming reduceAdd → sH, reduceSub → sI, reduceMul → sJ, reduceLT → sK, reduceLE → sL, reduceNeg → sM, reduceToNat → sN, reduceEq → sO
set_option maxHeartbeats 4000000
theorem fault_zero {a : Acc} (h : faultS a = 0) : a.rates.length ≤ 4 ∧ a.entries.length ≤ 8 ∧ (inB a.last 0 11 && (inB a.interest 0 200 && (inB a.bond 0 100000 && inB a.purse 0 100000))) = true ∧ ratesS a.last (-1) a.rates = true ∧ a.entries.all (isEntry a.last) = true ∧ sizes a.entries ≤ 1000 := by
  unfold faultS at h
  split at h
  · omega
  · split at h
    · omega
    · split at h
      · omega
      · split at h
        · omega
        · split at h
          · omega
          · rename_i h1 h2 h3 h4 h5
            refine ⟨by omega, by omega, by simpa using h2, by simpa using h3, by simpa using h4, by omega⟩
theorem findR_range {last : Int} : ∀ {l : List Rate} {p d n : Int}, ratesS last p l = true → findR l d = some n → 0 ≤ n ∧ n ≤ 100
  | [], _, _, _, _, h => by cases h
  | r :: l, p, d, n, hr, h => by
    simp only [ratesS, Bool.and_eq_true, inB, decide_eq_true_eq] at hr
    simp only [findR] at h
    split at h
    · cases h; omega
    · exact findR_range hr.2.2.2 h
theorem rated_range {last p : Int} {l : List Rate} (h : ratesS last p l = true) : ∀ x, 0 ≤ ratedX l x ∧ ratedX l x ≤ 100
  | 0 => by simp [ratedX]
  | x + 1 => by
    simp only [ratedX]
    cases hf : findR l x with
    | none => exact rated_range h x
    | some n => exact findR_range h hf
theorem nth_len : ∀ (l : List Entry) (n : Int), (nthS l n).length = l.length
  | [], _ => rfl
  | e :: r, n => by simp [nthS, nth_len r]
theorem isEntry_pence {last : Int} {e : Entry} (h : isEntry last e = true) : -100000 ≤ e.pence ∧ e.pence ≤ 100000 := by
  unfold isEntry at h
  simp only [inB, Bool.and_eq_true, decide_eq_true_eq] at h
  obtain ⟨_, h⟩ := h
  split at h
  · simp at h; omega
  · split at h
    · simp at h; omega
    · split at h
      · simp at h; omega
      · split at h
        · simp at h; omega
        · simp at h
theorem nth_unit {last : Int} : ∀ {l : List Entry} {n : Int} {j : Nat}, l.all (isEntry last) = true → j < l.length → (getE l j).lo ≤ (nthS l n).getD j 0 ∧ (nthS l n).getD j 0 ≤ (getE l j).hi
  | [], _, _, _, h => by simp at h
  | e :: r, n, 0, ha, _ => by
    simp only [List.all_cons, Bool.and_eq_true] at ha
    have := isEntry_small ha.1
    have hm := mod_bound (m := n) (s := e.hi - e.lo + 1) (by omega)
    show e.lo ≤ e.lo + n % (e.hi - e.lo + 1) ∧ e.lo + n % (e.hi - e.lo + 1) ≤ e.hi
    omega
  | e :: r, n, j + 1, ha, hj => by
    simp only [List.all_cons, Bool.and_eq_true] at ha
    exact nth_unit (l := r) (n := n / (e.hi - e.lo + 1)) (j := j) ha.2 (by simpa using hj)
theorem all_get {last : Int} {l : List Entry} {j : Nat} (h : l.all (isEntry last) = true) (hj : j < l.length) : isEntry last (getE l j) = true := by
  rw [List.all_eq_true] at h
  apply h
  show l.getD j default ∈ l
  rw [← List.getElem_eq_getD (h := hj)]; exact List.getElem_mem _
theorem listed_unit : ∀ {l : List Entry} {t : List Int}, listedS l t = true → t.length = l.length ∧ ∀ j, j < l.length → (getE l j).lo ≤ t.getD j 0 ∧ t.getD j 0 ≤ (getE l j).hi
  | [], [], _ => ⟨rfl, fun j h => by simp at h⟩
  | e :: es, n :: ns, h => by
    simp only [listedS, inB, Bool.and_eq_true, decide_eq_true_eq] at h
    obtain ⟨h1, h2⟩ := listed_unit h.2
    refine ⟨by simp [h1], fun j hj => ?_⟩
    cases j with
    | zero => exact h.1
    | succ j => exact h2 j (by simpa using hj)
  | [], _ :: _, h => by simp [listedS] at h
  | _ :: _, [], h => by simp [listedS] at h
theorem fit_of {a : Acc} {t : List Int} (h : faultS a = 0) (hl : t.length = a.entries.length) (hu : ∀ j, j < a.entries.length → (getE a.entries j).lo ≤ t.getD j 0 ∧ t.getD j 0 ≤ (getE a.entries j).hi) : Fit a t := by
  obtain ⟨h1, h2, h3, h4, h5, _⟩ := fault_zero h
  simp only [inB, Bool.and_eq_true, decide_eq_true_eq] at h3
  refine ⟨by omega, by omega, by omega, by omega, by omega, by omega, by omega, by omega, by omega, rated_range h4, fun j hj => ?_, fun j hj => isEntry_pence (all_get h5 hj)⟩
  have e := isEntry_small (all_get h5 (j := j) (by omega))
  have := hu j (by omega)
  omega
theorem fit_nth {a : Acc} (h : faultS a = 0) (n : Int) : Fit a (nthS a.entries n) := fit_of h (nth_len _ _) fun _ hj => nth_unit (fault_zero h).2.2.2.2.1 hj
theorem fit_listed {a : Acc} {t : List Int} (h : faultS a = 0) (hl : listedS a.entries t = true) : Fit a t := fit_of h (listed_unit hl).1 (listed_unit hl).2
end AM.Try
end
/- The program: Go's slices.Clone; an account's debts. -/
section
namespace AM.Try
open Go AM AM.Duty
open Nat renaming reduceLT → sA, reduceAdd → sB, reduceMul → sC, reduceSub → sD, reduceLeDiff → sE, reduceEqDiff → sF, reduceBEq → sG
open Int renaming reduceAdd → sH, reduceSub → sI, reduceMul → sJ, reduceLT → sK, reduceLE → sL, reduceNeg → sM, reduceToNat → sN, reduceEq → sO
set_option maxHeartbeats 8000000
set_option maxRecDepth 100000
theorem viewF_nil {B : Nat} {os : Nat → Option AO} : viewF B os (.p (.val (.slice none 0 0))) = some (.p (.sl [])) := rfl
theorem viewF_own {os : Nat → Option AO} {n len k : Nat} {es : List (List PV)} (h : os n = some (.arr k es)) (h1 : len ≤ es.length) (h2 : (es.all fun e => e.all PV.isVal) = true) : viewF 0 os (.own n len) = some (.p (.sl (es.take len))) := by
  unfold viewF; simp only [h]; rw [if_pos ⟨h1, Nat.zero_le _, h2⟩]
theorem ints_isVal (l : List Int) : ((l.map fun n => [iv n]).all fun e => e.all PV.isVal) = true := by
  rw [List.all_eq_true]
  intro x hx
  obtain ⟨n, _, rfl⟩ := List.mem_map.1 hx
  rfl
theorem c60 (l : List Int) (hl : l.length < 1000000) : FCall Go.Proofs.Try.prog 60 [isl l] (isl l) := by
  refine fcall_mk (v := []) (q := []) (N := 8) (i := 2) Go.Proofs.Try.func60 rfl rfl rfl rfl rfl ?_
  refine awp_seq_k fun K1 hK1 => ?_
  refine awp_ops ?_
  simp (disch := omega) only [amL, sA]
  refine hK1 _ ?_
  refine awp_seq_k fun K2 hK2 => ?_
  refine awp_seq_k fun K3 hK3 => ?_
  refine awp_move_nil (by decide) (by decide) (by rw [ty26]) rfl (fun b hb => ?_)
  simp (disch := omega) only [amL, ↓reduceIte, reduceCtorEq]
  refine hK3 _ ?_
  refine awp_cond rfl (fun h => ?_) (fun h => ?_)
  ·first
   | exact Bool.noConfusion h
   |skip
    try simp only [Bool.not_eq_true', decide_eq_true_eq, decide_eq_false_iff_not, Bool.and_eq_true, Bool.not_eq_false', Bool.not_not, decide_not, Bool.not_true, Bool.not_false] at h
    refine awp_seq_k fun K4 hK4 => ?_
    refine awp_ops ?_
    simp (disch := omega) only [amL, sA]
    refine hK4 _ ?_
    refine awp_ret ?_
    try simp (disch := omega) only [amL, ↓reduceIte]
    first | ((have e : l = [] := by have := hb h; simpa using this); subst e; rfl) | (rw [viewF_own rfl (by simp) (ints_isVal l), List.take_of_length_le (by simp)])
  ·first
   | exact Bool.noConfusion h
   |skip
    try simp only [Bool.not_eq_true', decide_eq_true_eq, decide_eq_false_iff_not, Bool.and_eq_true, Bool.not_eq_false', Bool.not_not, decide_not, Bool.not_true, Bool.not_false] at h
    refine awp_skip ?_
    refine hK2 _ ?_
    refine awp_seq_k fun K5 hK5 => ?_
    refine awp_ops ?_
    simp (disch := omega) only [isl_all, amL, amT, sA, sF, ↓reduceIte, reduceCtorEq]
    refine hK5 _ ?_
    refine awp_ret ?_
    try simp (disch := omega) only [amL, ↓reduceIte]
    first | ((have e : l = [] := by have := hb h; simpa using this); subst e; rfl) | (rw [viewF_own rfl (by simp) (ints_isVal l), List.take_of_length_le (by simp)])
theorem EO_slice95 {r : RB} {N : Nat} {s : St} {K : St → Prop} {dst : Option Nat} {ty : TypeId} {pos : String} {after : Array Edge} {g : Option (Nat × Bool)} {x : Operand} {lo hi : Option Operand} : EO Go.Proofs.Try.prog r N ⟨dst, .slice 95 x lo hi none, ty, pos, after, g⟩ s K = EOp r.b N dst s K (fSlA (fun e => (tyOf Go.Proofs.Try.prog e).sz) (fun e => (tyOf Go.Proofs.Try.prog e).agg) 12 3 (ev s.t x) (bound? (ev s.t) 0 lo) (bound? (ev s.t) 12 hi)) := EO_sliceA (by rw [ty95])
theorem rate_range {last p : Int} {l : List Rate} (h : ratesS last p l = true) : ∀ (d q : Int), 0 ≤ q ∧ q ≤ 100 → 0 ≤ rateOn d l q ∧ rateOn d l q ≤ 100 := by
  induction l generalizing p with
  | nil => intro d q hq; exact hq
  | cons r l ih =>
    intro d q hq
    simp only [ratesS, Bool.and_eq_true, inB, decide_eq_true_eq] at h
    simp only [rateOn]
    refine ih h.2.2.2 d _ ?_
    split
    · omega
    · exact hq
def listedP : List Entry → List Int → Bool
  | [], [] => true
  | e :: es, u :: us => inB u e.lo e.hi && listedP es us
  | _, _ => false
theorem listed_len : ∀ {es : List Entry} {t : List Int}, listedP es t = true → t.length = es.length
  | [], [], _ => rfl
  | [], _ :: _, h => by cases h
  | _ :: _, [], h => by cases h
  | e :: es, u :: us, h => by
    simp only [listedP, Bool.and_eq_true] at h
    simp [listed_len h.2]
theorem listed_get : ∀ {es : List Entry} {t : List Int}, listedP es t = true → ∀ j, j < es.length → inB (t.getD j 0) (getE es j).lo (getE es j).hi = true
  | [], [], _, j, h => by simp at h
  | [], _ :: _, h, _, _ => by cases h
  | _ :: _, [], h, _, _ => by cases h
  | e :: es, u :: us, h, 0, _ => by
    simp only [listedP, Bool.and_eq_true] at h
    exact h.1
  | e :: es, u :: us, h, j + 1, hj => by
    simp only [listedP, Bool.and_eq_true] at h
    exact listed_get h.2 j (by simpa using hj)
theorem listed_of : ∀ {es : List Entry} {t : List Int}, t.length = es.length → (∀ j, j < es.length → inB (t.getD j 0) (getE es j).lo (getE es j).hi = true) → listedP es t = true
  | [], [], _, _ => rfl
  | [], _ :: _, h, _ => by simp at h
  | _ :: _, [], h, _ => by simp at h
  | e :: es, u :: us, h, hg => by
    simp only [listedP, Bool.and_eq_true]
    exact ⟨hg 0 (by simp), listed_of (by simpa using h) (fun j hj => hg (j + 1) (by simpa using hj))⟩
theorem isEntry_parts {last : Int} {e : Entry} (h : isEntry last e = true) : (0 ≤ e.kind ∧ e.kind ≤ 3) ∧ (0 ≤ e.day ∧ e.day ≤ last) := by
  unfold isEntry at h
  simp only [Bool.and_eq_true] at h
  obtain ⟨h0, h⟩ := h
  simp only [inB, Bool.and_eq_true, decide_eq_true_eq] at h0
  refine ⟨?_, h0⟩
  split at h
  · omega
  · split at h
    · omega
    · split at h
      · omega
      · split at h
        · omega
        · cases h
theorem getE_valid {last : Int} {l : List Entry} {j : Nat} (h : l.all (isEntry last) = true) (hj : j < l.length) : isEntry last (getE l j) = true := by
  rw [List.all_eq_true] at h
  exact h _ (getD_mem default hj)
theorem fitP_of {a : Acc} {t : List Int} (h : faultS a = 0) (hl : listedP a.entries t = true) : FitP a t := by
  obtain ⟨h1, h2, h3, h4, h5, _⟩ := fault_zero h
  simp only [inB, Bool.and_eq_true, decide_eq_true_eq] at h3
  refine ⟨by omega, by omega, by omega, by omega, by omega, by omega, listed_len hl, h2, by omega, fun x => rate_range h4 x 0 (by omega), fun j hj => ?_, fun j hj => ?_⟩
  · rw [listed_len hl] at hj
    have e := getE_valid h5 hj
    have := isEntry_small e
    have hb := listed_get hl j hj
    simp only [inB, Bool.and_eq_true, decide_eq_true_eq] at hb
    omega
  · have e := getE_valid h5 hj
    have e1 := isEntry_parts e
    have e2 := isEntry_small e
    have e3 := isEntry_pence e
    omega
theorem playF_len {a : Acc} {t paid : List Int} {ask : Bool} : ∀ {c day : Nat} {w : Int × Int}, (playF a t paid ask c day w).2 = true → (playF a t paid ask c day w).1.length = c
  | 0, _, _, _ => rfl
  | c + 1, day, w, h => by
    rw [playF_succ] at h ⊢
    split at h
    · cases h
    · simp only [List.length_cons]
      rw [playF_len h]
theorem playF_le {a : Acc} {t paid : List Int} {ask : Bool} : ∀ {c day : Nat} {w : Int × Int}, (playF a t paid ask c day w).1.length ≤ c
  | 0, _, _ => by simp [playF]
  | c + 1, day, w => by
    rw [playF_succ]
    split
    · simp
    · simp only [List.length_cons]
      have := playF_le (a := a) (t := t) (paid := paid) (ask := ask) (c := c) (day := day + 1) (w := payP a paid day (by assumption))
      omega
theorem playS_le {a : Acc} {t paid : List Int} {ask : Bool} (h1 : a.last ≤ 11) : (playS a t paid ask).1.length ≤ 12 := by
  have := playF_le (a := a) (t := t) (paid := paid) (ask := ask) (c := (a.last + 1).toNat) (day := 0) (w := (0, 0))
  unfold playS; omega
theorem playS_len {a : Acc} {t paid : List Int} {ask : Bool} (h : (playS a t paid ask).2 = true) : (playS a t paid ask).1.length = (a.last + 1).toNat := playF_len h
theorem pad_take2 {l : List Int} {n : Nat} (h : l.length = n) : (pad l).take n = l := by
  unfold pad; rw [List.take_append_of_le_length (by omega), List.take_of_length_le (by omega)]
abbrev nilS : AV := .p (.val (.slice none 0 0))
def playA (a : Acc) (t : List Int) : AV :=
  if faultS a = 0 then if listedP a.entries t = true then if (playS a t [] true).2 = true then .tup [isl (playS a t [] true).1, i64 0] else .tup [nilS, i64 11] else .tup [nilS, i64 2] else .tup [nilS, i64 (faultS a)]
theorem playA_isP (a : Acc) (t : List Int) : (playA a t).isP = true := by
  unfold playA; split <;> (try split) <;> (try split) <;> rfl
theorem viewA_csl {os : Nat → Option AO} {n off k len : Nat} : viewA os (.csl n off k len) = viewC os (.csl n off k len) := rfl
theorem c21 (a : Acc) (t : List Int) (hl1 : a.rates.length < 1000000) (hl2 : a.entries.length < 1000000) (hlt : t.length < 1000000) (hin : ∀ e ∈ a.entries, inR e.lo = true ∧ inR e.hi = true) : PCall Go.Proofs.Try.prog 21 [avA a, isl t] (playA a t) := by
  refine pcall_mk (v := []) (q := []) (N := 52) (rs := [.tmp 4, .tmp 5]) Go.Proofs.Try.func21 rfl rfl rfl rfl (playA_isP a t) ?_
  refine awp_seq_k fun K1 hK1 => ?_
  refine awp_ops ?_
  simp (disch := omega) only [amL, sA, sB, ↓reduceIte]
  refine hK1 _ ?_
  refine awp_seq_k fun K2 hK2 => ?_
  refine awp_seq_k fun K3 hK3 => ?_
  refine awp_ops ?_
  simp (disch := omega) only [amL, amT, sA, sB, sF, ↓reduceIte]
  repeat' first | (refine EC_intro (by kernel_rfl) rfl (c25 a hl1 hl2 hin) (by first | exact .inl rfl | exact .inr (.inl rfl)) ?_ ; simp (disch := omega) only [amL, sA, ↓reduceIte])
  refine hK3 _ ?_
  refine awp_seq_k fun K4 hK4 => ?_
  refine awp_ops ?_
  simp (disch := omega) only [ne_eq, amL, amT, sA, ↓reduceIte]
  refine hK4 _ ?_
  refine awp_cond rfl (fun h => ?_) (fun h => ?_)
  ·first
   | exact Bool.noConfusion h
   |skip
    try simp only [Bool.not_eq_true', decide_eq_false_iff_not, decide_not] at h
    refine awp_seq_k fun K5 hK5 => ?_
    refine awp_ops ?_
    simp (disch := omega) only [amL, sA, sF, ↓reduceIte]
    refine hK5 _ ?_
    refine awp_ret ?_
    try simp (disch := omega) only [amL, sF, ↓reduceIte]
    first | (rw [playA, if_neg (by assumption)]; done) | (rw [playA, if_pos hf0, if_pos hli, if_pos hb]; done) | (rw [playA, if_pos hf0, if_pos hli, if_neg (by simpa using h)]; done) | (rw [playA, if_pos (by omega), if_neg (fun e => by have := listed_len e; omega)]; done) | (rw [playA, if_pos (by omega), if_neg (fun e => by have := listed_get e k (by omega); simp_all)]; done) | (omega)
  ·first
   | exact Bool.noConfusion h
   |skip
    try simp only [decide_eq_true_eq, Bool.not_eq_false', decide_not] at h
    refine awp_skip ?_
    refine hK2 _ ?_
    refine awp_seq_k fun K6 hK6 => ?_
    refine awp_seq_k fun K7 hK7 => ?_
    refine awp_ops ?_
    simp (disch := omega) only [ne_eq, amL, amT, sA, sF, ↓reduceIte, reduceCtorEq]
    refine hK7 _ ?_
    refine awp_cond rfl (fun h => ?_) (fun h => ?_)
    ·first
     | exact Bool.noConfusion h
     |skip
      try simp only [Bool.not_eq_true', decide_eq_false_iff_not, decide_not] at h
      refine awp_seq_k fun K8 hK8 => ?_
      refine awp_ops ?_
      simp (disch := omega) only [amL, sA]
      refine hK8 _ ?_
      refine awp_ret ?_
      try simp (disch := omega) only [amL, sF, ↓reduceIte]
      first | (rw [playA, if_neg (by assumption)]; done) | (rw [playA, if_pos hf0, if_pos hli, if_pos hb]; done) | (rw [playA, if_pos hf0, if_pos hli, if_neg (by simpa using h)]; done) | (rw [playA, if_pos (by omega), if_neg (fun e => by have := listed_len e; omega)]; done) | (rw [playA, if_pos (by omega), if_neg (fun e => by have := listed_get e k (by omega); simp_all)]; done) | (omega)
    ·first
     | exact Bool.noConfusion h
     |skip
      try simp only [decide_eq_true_eq, Bool.not_eq_false', decide_not] at h
      refine awp_skip ?_
      refine hK6 _ ?_
      refine awp_seq_k fun K9 hK9 => ?_
      refine awp_seq_k fun K10 hK10 => ?_
      refine awp_ops ?_
      simp (disch := omega) only [amL, amT, sA, sF, ↓reduceIte, reduceCtorEq]
      refine hK10 _ ?_
      refine awp_block ?_
      skip
      refine awp_loop_k (α := Nat) (fun k => ⟨T [(1, isl t), (2, .ptr 2 0), (23, .p (.sl (a.entries.map encE))), (24, i64 a.entries.length), (25, i64 k)], O [(2, .cells (cA a))]⟩) (fun k => a.entries.length - k) (fun k => k ≤ a.entries.length ∧ ∀ j, j < k → inB (t.getD j 0) (getE a.entries j).lo (getE a.entries j).hi = true) 0 ?_ ?_ (fun k hx11 K11 hK11 => ?_)
      · exact ⟨by omega, fun j hj => absurd hj (by omega)⟩
      · refine le_mk ?_ ?_ ?_ ?_ <;> (try simp (disch := omega) only [amL, sF, ↓reduceIte, reduceCtorEq])
      obtain ⟨hk, hn⟩ := hx11
      refine awp_seq_k fun K12 hK12 => ?_
      refine awp_ops ?_
      simp (disch := omega) only [amL, amT, sA, sF, ↓reduceIte]
      refine hK12 _ ?_
      refine awp_seq_k fun K13 hK13 => ?_
      refine awp_cond rfl (fun h => ?_) (fun h => ?_)
      ·first
       | exact Bool.noConfusion h
       |skip
        try simp only [decide_eq_true_eq] at h
        refine awp_skip ?_
        refine hK13 _ ?_
        refine awp_seq_k fun K14 hK14 => ?_
        refine awp_block ?_
        refine awp_seq_k fun K15 hK15 => ?_
        refine awp_ops ?_
        simp (disch := omega) only [encE_getD, amL, amT, sA, sB, sF, ↓reduceIte]
        refine hK15 _ ?_
        refine awp_seq_k fun K16 hK16 => ?_
        refine awp_any2 (by kernel_rfl) (by kernel_rfl) ?_
        simp (disch := omega) only [amL, amT, sA, sB, sE, sF, ↓reduceIte, reduceCtorEq]
        repeat' first | (refine EC_intro (by kernel_rfl) rfl (c58 _ _ _) (by first | exact .inl rfl | exact .inr (.inl rfl)) ?_ ; simp (disch := omega) only [amL, sA, ↓reduceIte])
        refine hK16 _ ?_
        refine awp_cond rfl (fun h => ?_) (fun h => ?_)
        ·first
         | exact Bool.noConfusion h
         |skip
          try simp only [Bool.not_eq_true'] at h
          refine awp_seq_k fun K17 hK17 => ?_
          refine awp_ops ?_
          simp (disch := omega) only [amL, sA]
          refine hK17 _ ?_
          refine awp_ret ?_
          try simp (disch := omega) only [amL, sF, ↓reduceIte]
          first | (rw [playA, if_neg (by assumption)]; done) | (rw [playA, if_pos hf0, if_pos hli, if_pos hb]; done) | (rw [playA, if_pos hf0, if_pos hli, if_neg (by simpa using h)]; done) | (rw [playA, if_pos (by omega), if_neg (fun e => by have := listed_len e; omega)]; done) | (rw [playA, if_pos (by omega), if_neg (fun e => by have := listed_get e k (by omega); simp_all)]; done) | (omega)
        ·first
         | exact Bool.noConfusion h
         |skip
          try simp only [Bool.not_eq_false'] at h
          refine awp_skip ?_
          refine hK14 _ ?_
          refine awp_ops ?_
          simp (disch := omega) only [amL, amT, sA, sF, ↓reduceIte]
          refine hK11 (k+1) _ ?_ ?_ (le_mk ?_ ?_ ?_ ?_)
          all_goals (try simp (disch := omega) only [amL, sF, ↓reduceIte])
          all_goals first | omega | exact ⟨by omega, fun j hj => by
            by_cases e : j = k
            · subst e; assumption
            · exact hn j (by omega)⟩ | (omega)
      ·first
       | exact Bool.noConfusion h
       |skip
        try simp only [decide_eq_false_iff_not] at h
        refine awp_exit ?_
        refine hK9 _ ?_
        refine awp_seq_k fun K18 hK18 => ?_
        refine awp_ops ?_
        have hli : listedP a.entries t = true := listed_of (by omega) (fun j hj => hn j (by omega))
        have hf0 : faultS a = 0 := by omega
        have hfit := fitP_of hf0 hli
        have hpl := pad_len (playS_le (t := t) (paid := []) (ask := true) hfit.last1)
        have hpc := putCells_all (vs := List.map i64 (pad (playS a t [] true).1)) (l := [i64 0, i64 0, i64 0, i64 0, i64 0, i64 0, i64 0, i64 0, i64 0, i64 0, i64 0, i64 0]) (by rw [List.length_map, hpl]; rfl)
        have hl0 := hfit.last0
        have hl11 := hfit.last1
        simp (disch := omega) only [amL, amT, sA, sB, sF, ↓reduceIte]
        repeat' first | (refine EC_intro (by kernel_rfl) rfl (PCall.of_nil 2 rfl (c59 a t [] true hfit (by simp))) (by first | exact .inl rfl | exact .inr (.inl rfl)) ?_ ; simp (disch := omega) only [hpl, hpc, amL, amT, sA, sB, sF, ↓reduceIte])
        refine hK18 _ ?_
        refine awp_seq_k fun K19 hK19 => ?_
        refine awp_seq_k fun K20 hK20 => ?_
        refine awp_ops ?_
        simp (disch := omega) only [amL, sA, ↓reduceIte]
        refine hK20 _ ?_
        refine awp_cond rfl (fun h => ?_) (fun h => ?_)
        ·first
         | exact Bool.noConfusion h
         |skip
          try simp only [Bool.not_eq_true'] at h
          refine awp_seq_k fun K21 hK21 => ?_
          refine awp_ops ?_
          simp (disch := omega) only [amL, sA]
          refine hK21 _ ?_
          refine awp_ret ?_
          try simp (disch := omega) only [amL, sF, ↓reduceIte]
          first | (rw [playA, if_neg (by assumption)]; done) | (rw [playA, if_pos hf0, if_pos hli, if_pos hb]; done) | (rw [playA, if_pos hf0, if_pos hli, if_neg (by simpa using h)]; done) | (rw [playA, if_pos (by omega), if_neg (fun e => by have := listed_len e; omega)]; done) | (rw [playA, if_pos (by omega), if_neg (fun e => by have := listed_get e k (by omega); simp_all)]; done) | (omega)
        ·first
         | exact Bool.noConfusion h
         |skip
          try simp only [Bool.not_eq_false'] at h
          refine awp_skip ?_
          refine hK19 _ ?_
          refine awp_seq_k fun K22 hK22 => ?_
          refine awp_ops ?_
          simp (disch := omega) only [EO_slice95, fSlA_ptr, bound_none, bound_some, bnd1_int, viewA_csl, viewC_csl, amL, amT, sA, sF, sH, sK, sL, sN, ↓reduceIte, reduceCtorEq]
          have hb : (playS a t [] true).2 = true := by simpa using h
          simp only [show (a.last + 1 - 0).toNat = (a.last + 1).toNat by omega]
          rw [elems_ints rfl (by rw [hpl]; omega), pad_take2 (playS_len hb)]
          simp only [Option.map_some, oc2_some]
          refine EF_intro (by kernel_rfl) rfl (c60 _ (by rw [playS_len hb]; omega)) ?_
          simp (disch := omega) only [amL, sA, ↓reduceIte]
          all_goals
           skip
           refine hK22 _ ?_
           refine awp_ret ?_
           try simp (disch := omega) only [amL, sF, ↓reduceIte]
           first | (rw [playA, if_neg (by assumption)]; done) | (rw [playA, if_pos hf0, if_pos hli, if_pos hb]; done) | (rw [playA, if_pos hf0, if_pos hli, if_neg (by simpa using h)]; done) | (rw [playA, if_pos (by omega), if_neg (fun e => by have := listed_len e; omega)]; done) | (rw [playA, if_pos (by omega), if_neg (fun e => by have := listed_get e k (by omega); simp_all)]; done) | (omega)
end AM.Try
end
/- The program: all lists of units, yielded one after the other. -/
section
namespace AM.Try
open Go AM AM.Duty
open Nat renaming reduceLT → sA, reduceAdd → sB, reduceMul → sC, reduceSub → sD, reduceLeDiff → sE, reduceEqDiff → sF, reduceBEq → sG
open Int renaming reduceAdd → sH, reduceSub → sI, reduceMul → sJ, reduceLT → sK, reduceLE → sL, reduceNeg → sM, reduceToNat → sN, reduceEq → sO
set_option maxHeartbeats 8000000
set_option maxRecDepth 100000
def Apart (F mv : Nat → Prop) (os : Nat → Option AO) : Prop := ∀ n o, ¬ F n → os n = some o → ∀ m, mv m → o.clean m = true
theorem Apart.of {F F' mv : Nat → Prop} {os os' : Nat → Option AO} (h : Apart F mv os) (h' : ∀ n o, ¬ F' n → os' n = some o → (¬ F n ∧ os n = some o) ∨ ∀ m, mv m → o.clean m = true) : Apart F' mv os' := fun n o hn ho => by
  rcases h' n o hn ho with h1 | h1
  · exact h n o h1.1 h1.2
  · exact h1
theorem Apart.none {F : Nat → Prop} {os : Nat → Option AO} : Apart F (fun _ => False) os := fun _ _ _ _ _ h => h.elim
theorem Apart.upd {F mv : Nat → Prop} {os : Nat → Option AO} {n : Nat} {o : AO} (h : Apart F mv os) (ho : ∀ m, mv m → o.clean m = true) : Apart F mv (upd os n (some o)) := fun k x hk hx => by
  by_cases e : k = n
  · subst e; rw [upd_eq] at hx; cases hx; exact ho
  · rw [upd_ne e] at hx; exact h k x hk hx
theorem Apart.keep {F mv : Nat → Prop} {os os' : Nat → Option AO} {na k : Nat} {es : List (List PV)} (h : Apart F mv os) (hna : os' na = some (.arr k es)) (hfr : ∀ n, ¬ F n → n ≠ na → os' n = os n) : Apart F mv os' := fun n o hn ho => by
  by_cases e : n = na
  · subst e; rw [hna] at ho; cases ho; exact fun _ _ => rfl
  · rw [hfr n hn e] at ho; exact h n o hn ho
theorem clean_cells {cs : List AV} {mv : Nat → Prop} (h : ∀ x ∈ cs, x.stays mv) (m : Nat) (hm : mv m) : (AO.cells cs).clean m = true := (cleanL_iff m cs).2 fun _ x hx => h x (List.mem_of_getElem? hx) m hm
theorem clean_ints {l : List Int} {m : Nat} : (AO.cells (l.map i64)).clean m = true := (cleanL_iff m _).2 fun i x hx => by
  rw [List.getElem?_map, Option.map_eq_some_iff] at hx
  obtain ⟨y, _, rfl⟩ := hx
  rfl
theorem stays_fn {mv : Nat → Prop} {f : Fn} {fs cs : List AV} (h1 : ∀ x ∈ fs, x.stays mv) (h2 : ∀ x ∈ cs, x.stays mv) : (AV.fn f fs cs).stays mv := fun m hm => by
  simp only [AV.clean, Bool.and_eq_true, cleanL_iff]
  exact ⟨fun i x hx => h1 x (List.mem_of_getElem? hx) m hm, fun i x hx => h2 x (List.mem_of_getElem? hx) m hm⟩
theorem stays_own {mv : Nat → Prop} {n len : Nat} (h : ¬ mv n) : (AV.own n len).stays mv := fun m hm => by
  simp only [AV.clean, bne_iff_ne]; intro e; exact h (e ▸ hm)
theorem stays_yld {mv : Nat → Prop} {n : Nat} (h : ¬ mv n) : (AV.yld n).stays mv := fun m hm => by
  simp only [AV.clean, bne_iff_ne]; intro e; exact h (e ▸ hm)
structure Yields (yv : AV) (F mv : Nat → Prop) (ex : List Int → List AV) (ok : List Int → Prop) {σ : Type} (go : Nat → σ → Prop) (I : σ → (Nat → Option AO) → Prop) (step : σ → List Int → σ × Bool) : Prop where
  mvF : ∀ n, mv n → F n
  stays : yv.stays mv
  live : ∀ s os, I s os → yv.lives os
  own : ∀ m, yv.clean m = false → F m
  stable : ∀ s os os', I s os → (∀ n, F n → os' n = os n) → I s os'
  foot : ∀ s os n, I s os → F n → ∃ o, os n = some o ∧ ∀ m, o.clean m = false → F m
  mono : ∀ r s, go (r + 1) s → go r s
  next : ∀ r s x, ok x → go (r + 1) s → (step s x).2 = true → go r (step s x).1
  call : ∀ r s x os bd na, ok x → go (r + 1) s → I s os → Apart F mv os → ¬ F na → os na = some (.arr 1 (x.map encI)) →
    VCallM Go.Proofs.Try.prog mv bd yv (.own na x.length :: ex x) os fun res os' => res = bl (step s x).2 ∧ I (step s x).1 os' ∧ ∀ n, ¬ F n → os' n = os n
theorem dropFrom_closed {bd : Nat} {os os2 : Nat → Option AO} (hcl : (Hp os).closed) (hcl2 : (Hp os2).closed) (hfree : ∀ n, bd ≤ n → os n = none) (h : ∀ n, n < bd → os2 n = os n ∨ ∀ o m, os2 n = some o → o.clean m = false → m < bd) : (Hp (dropFrom bd os2)).closed := by
  refine ⟨fun _ => AV.lives_undef _, fun n o hn m hm => ?_⟩
  have hn : dropFrom bd os2 n = some o := hn
  by_cases hb : n < bd
  · rw [dropFrom_lt hb] at hn
    have hm2 : (os2 m).isSome = true := hcl2.2 n o hn m hm
    have hmb : m < bd := by
      rcases h n hb with h | h
      · rw [h] at hn
        have : (os m).isSome = true := hcl.2 n o hn m hm
        cases Nat.lt_or_ge m bd with
        | inl h => exact h
        | inr h' => rw [hfree m h'] at this; cases this
      · exact h o m hn hm
    show (dropFrom bd os2 m).isSome = true
    rw [dropFrom_lt hmb]; exact hm2
  · rw [dropFrom_ge (by omega)] at hn; cases hn
def listsN (f : Int → List (List Int)) : Nat → Int → List (List Int)
  | 0, _ => []
  | c + 1, n => f n ++ listsN f c (n + 1)
def listsP : List Entry → List Int → List (List Int)
  | [], p => [p]
  | e :: es, p => listsN (fun n => listsP es (p ++ [n])) (e.hi - e.lo + 1).toNat e.lo
theorem allS_append {σ α : Type} {step : σ → α → σ × Bool} : ∀ (l1 l2 : List α) (s : σ), allS step s (l1 ++ l2) = if (allS step s l1).2 = true then allS step (allS step s l1).1 l2 else allS step s l1
  | [], l2, s => rfl
  | x :: l1, l2, s => by
    simp only [List.cons_append, allS]
    split
    · rw [allS_append l1 l2]
    · rename_i h; simp
theorem allS_go {yv : AV} {F mv : Nat → Prop} {ex : List Int → List AV} {ok : List Int → Prop} {σ : Type} {go : Nat → σ → Prop} {I : σ → (Nat → Option AO) → Prop} {step : σ → List Int → σ × Bool} (hY : Yields yv F mv ex ok go I step) {r : Nat} : ∀ (l : List (List Int)) (s : σ), (∀ x ∈ l, ok x) → go (l.length + r) s → (allS step s l).2 = true → go r (allS step s l).1
  | [], s, _, hg, _ => by
    rw [List.length_nil, Nat.zero_add] at hg; exact hg
  | x :: l, s, ho, hg, h => by
    simp only [allS] at h ⊢
    rw [List.length_cons, show l.length + 1 + r = (l.length + r) + 1 by omega] at hg
    split at h
    · rename_i h1
      rw [if_pos h1]
      exact allS_go hY l _ (fun y hy => ho y (by simp [hy])) (hY.next _ s x (ho x (by simp)) hg h1) h
    · cases h
theorem listsN_mem {f : Int → List (List Int)} {x : List Int} : ∀ (c : Nat) (n : Int) (k : Nat), k < c → x ∈ f (n + k) → x ∈ listsN f c n
  | 0, _, k, hk, _ => by omega
  | c + 1, n, 0, _, h => by
    simp only [listsN, List.mem_append]
    left; simpa using h
  | c + 1, n, k + 1, hk, h => by
    simp only [listsN, List.mem_append]
    right
    refine listsN_mem c (n + 1) k (by omega) ?_
    rw [show n + 1 + (k : Int) = n + ((k + 1 : Nat) : Int) by omega]; exact h
structure Ch (a : Acc) (no ny nA nc na : Nat) (yv : AV) (cur : List Int) (os : Nat → Option AO) : Prop where
  o1 : os no = some (.cells [.own na cur.length])
  o2 : os ny = some (.cells [yv])
  o3 : os nA = some (.cells (cA a))
  o4 : os nc = some (.cells [.fn (.func 108) [] [.ptr no 0, .ptr ny 0, .ptr nA 0, .ptr nc 0]])
  o5 : os na = some (.arr 1 (cur.map encI))
  len : cur.length = a.entries.length
theorem allS_one {σ α : Type} {step : σ → α → σ × Bool} {s : σ} {x : α} : allS step s [x] = step s x := by
  simp only [allS]
  split
  · rename_i h; exact Prod.ext rfl h.symm
  · rename_i h; exact Prod.ext rfl (Bool.eq_false_iff.2 h).symm
theorem Yields.fin {yv : AV} {F mv : Nat → Prop} {ex : List Int → List AV} {ok : List Int → Prop} {σ : Type} {go : Nat → σ → Prop} {I : σ → (Nat → Option AO) → Prop} {step : σ → List Int → σ × Bool} (hY : Yields yv F mv ex ok go I step) {os os2 : Nat → Option AO} {bd na : Nat} {l : List (List PV)} (hcl : (Hp os).closed) (hcl2 : (Hp os2).closed) (hfree : ∀ n, bd ≤ n → os n = none) {s s' : σ} (hI : I s os) (hI2 : I s' os2) (b5 : na < bd) (hna : os2 na = some (.arr 1 l))
    (hfr : ∀ n, n < bd → ¬ F n → n ≠ na → os2 n = os n) : (Hp (dropFrom bd os2)).closed ∧ I s' (dropFrom bd os2) ∧ dropFrom bd os2 na = some (.arr 1 l) ∧ ∀ n, ¬ F n → n ≠ na → dropFrom bd os2 n = os n := by
  have hF : ∀ n, F n → n < bd := fun n hn => by obtain ⟨o, h, _⟩ := hY.foot s os n hI hn; exact lt_of_live hfree h
  refine ⟨dropFrom_closed hcl hcl2 hfree fun n hn => ?_, hY.stable s' os2 _ hI2 (fun n hn => dropFrom_lt (hF n hn)), (dropFrom_lt b5).trans hna, fun n h1 h2 => ?_⟩
  · by_cases h1 : F n
    · right
      intro o m h2 h3
      obtain ⟨o', h4, h5⟩ := hY.foot s' os2 n hI2 h1
      rw [h4] at h2; cases h2
      exact hF m (h5 m h3)
    · by_cases h2 : n = na
      · right
        intro o m h3 h4
        subst h2
        rw [hna] at h3; cases h3
        simp [AO.clean] at h4
      · exact .inl (hfr n hn h1 h2)
  · by_cases hb : n < bd
    · rw [dropFrom_lt hb]; exact hfr n hb h1 h2
    · rw [dropFrom_ge (by omega), hfree n (by omega)]
theorem set_encI {l : List Int} {i : Nat} {v : Int} : (l.map encI).set i [iv v] = (l.set i v).map encI := List.map_set.symm
theorem take_set {l : List Int} {i : Nat} {v : Int} (h : i < l.length) : (l.set i v).take (i + 1) = l.take i ++ [v] := by
  rw [List.take_succ_eq_append_getElem (by simpa using h)]; simp [List.take_set_of_le]
theorem take_less {l l' : List Int} {i : Nat} (h : l.take (i + 1) = l'.take (i + 1)) : l.take i = l'.take i := by
  have := congrArg (List.take i) h
  rwa [List.take_take, List.take_take, Nat.min_eq_left (by omega)] at this
theorem take_pre {l p : List Int} {v : Int} {i : Nat} (h : l.take (i + 1) = p ++ [v]) (hp : p.length = i) : l.take i = p := by
  have := congrArg (List.take i) h
  rw [List.take_take, Nat.min_eq_left (by omega), List.take_append_of_le_length (Nat.le_of_eq hp.symm), List.take_of_length_le (Nat.le_of_eq hp)] at this
  exact this
theorem lists_here {a : Acc} {cur : List Int} {i : Nat} (h : i < a.entries.length) : listsP (a.entries.drop i) (cur.take i) = listsN (fun n => listsP (a.entries.drop (i + 1)) (cur.take i ++ [n])) ((getE a.entries i).hi - (getE a.entries i).lo + 1).toNat (getE a.entries i).lo := by
  rw [drop_getD (d := default) h]; rfl
theorem lists_end {a : Acc} {cur : List Int} {i : Nat} (h : a.entries.length ≤ i) (hl : cur.length = a.entries.length) : listsP (a.entries.drop i) (cur.take i) = [cur] := by
  rw [List.drop_of_length_le h, List.take_of_length_le (by omega)]; rfl
theorem listsN_next {f : Int → List (List Int)} {sz n : Nat} {lo : Int} (h : n < sz) : listsN f (sz - n) (lo + n) = f (lo + n) ++ listsN f (sz - (n + 1)) (lo + (n + 1 : Nat)) := by
  rw [show sz - n = (sz - (n + 1)) + 1 by omega, show lo + ((n + 1 : Nat) : Int) = lo + n + 1 by omega]; rfl
theorem listsN_end {f : Int → List (List Int)} {sz n : Nat} {lo : Int} (h : sz ≤ n) : listsN f (sz - n) lo = [] := by
  rw [show sz - n = 0 by omega]; rfl
theorem c108 {a : Acc} {yv : AV} {F mv : Nat → Prop} {ok : List Int → Prop} {σ : Type} {go : Nat → σ → Prop} {I : σ → (Nat → Option AO) → Prop} {step : σ → List Int → σ × Bool} (hY : Yields yv F mv (fun _ => []) ok go I step) (hsm : smallE a.entries) {no ny nA nc na : Nat} (f1 : ¬ F no) (f2 : ¬ F ny) (f3 : ¬ F nA) (f4 : ¬ F nc) (f5 : ¬ F na) :
    ∀ (m i : Nat), a.entries.length - i = m → i ≤ a.entries.length → ∀ (r : Nat) (cur : List Int) (s : σ) (os : Nat → Option AO) (bd : Nat), Ch a no ny nA nc na yv cur os → go ((listsP (a.entries.drop i) (cur.take i)).length + r) s → I s os → Apart F mv os → (∀ x ∈ listsP (a.entries.drop i) (cur.take i), ok x) →
    VCallM Go.Proofs.Try.prog mv bd (.fn (.func 108) [] [.ptr no 0, .ptr ny 0, .ptr nA 0, .ptr nc 0]) [i64 i] os fun res os' => res = bl (allS step s (listsP (a.entries.drop i) (cur.take i))).2 ∧ I (allS step s (listsP (a.entries.drop i) (cur.take i))).1 os' ∧
      (∃ cur' : List Int, cur'.length = cur.length ∧ cur'.take i = cur.take i ∧ os' na = some (.arr 1 (cur'.map encI))) ∧ ∀ n, ¬ F n → n ≠ na → os' n = os n := by
  intro m
  induction m using Nat.strongRecOn with
  | ind m ih =>
  intro i hm hi r cur s os bd hch hg hI hap hok
  refine vcall_mk (v := []) (q := []) (N := 40) (rs := [.tmp 6]) Go.Proofs.Try.func108 rfl (by kernel_rfl) rfl rfl (fun hcl hfree => ?_)
  obtain ⟨o1, o2, o3, o4, o5, hlen⟩ := hch
  have hfr0 : ∀ k, os (bd + k) = none := fun k => hfree _ (by omega)
  have b1 := lt_of_live hfree o1
  have b2 := lt_of_live hfree o2
  have b3 := lt_of_live hfree o3
  have b4 := lt_of_live hfree o4
  have b5 := lt_of_live hfree o5
  have hF : ∀ n, F n → n < bd := fun n hn => by obtain ⟨o, h, _⟩ := hY.foot s os n hI hn; exact lt_of_live hfree h
  have hF7 : ¬ F (bd + 7) := fun h => by have := hF _ h; omega
  have d1 : na ≠ no := fun e => by subst e; rw [o1] at o5; cases o5
  have d2 : na ≠ ny := fun e => by subst e; rw [o2] at o5; cases o5
  have d3 : na ≠ nA := fun e => by subst e; rw [o3] at o5; cases o5
  have d4 : na ≠ nc := fun e => by subst e; rw [o4] at o5; cases o5
  have hlv := hY.live _ _ hI
  have hsmall := hsm.1
  refine awp_seq_k fun K1 hK1 => ?_
  refine awp_ops ?_
  simp (disch := omega) only [amL, sA, sB]
  refine hK1 _ ?_
  refine awp_seq_k fun K2 hK2 => ?_
  refine awp_seq_k fun K3 hK3 => ?_
  refine awp_ops ?_
  simp (disch := omega) only [o1, amL, amT, sA, sF, ↓reduceIte, reduceCtorEq]
  refine hK3 _ ?_
  refine awp_cond rfl (fun h => ?_) (fun h => ?_)
  ·first
   | exact Bool.noConfusion h
   |skip
    try simp only [decide_eq_true_eq] at h
    refine awp_seq_k fun K4 hK4 => ?_
    refine awp_ops ?_
    have hone := lists_end (a := a) (cur := cur) (i := i) (by omega) hlen
    rw [hone] at hok hg
    simp (disch := omega) only [o1, o2, amL, amT, sA, sF, ↓reduceIte, reduceCtorEq]
    refine EV_intro3 [] (by decide) (hY.call r s cur os (bd + 40) na (hok cur (by simp)) (by rw [List.length_cons, List.length_nil, show 0 + 1 + r = r + 1 by omega] at hg; exact hg) hI hap f5 o5) (fun _ h => .inl h) trivial (fun n hn => hfree n (by omega)) (by simp only []; omega) (fun res os2 hR hcl2 hlv2 => ?_)
    obtain ⟨rfl, hI2, hfr2⟩ := hR
    simp (disch := omega) only [amL, sA, ↓reduceIte]
    refine hK4 _ ?_
    refine awp_ret ?_
    try simp (disch := omega) only [amL]
    first | (obtain ⟨g1, g2, g3, g4⟩ := hY.fin hcl hcl2 hfree hI hI2 b5 ((hfr2 na f5).trans o5) (fun q _ hq _ => hfr2 q hq); refine retV_mk (res := bl _) (dropFrom bd os2) (by simp (disch := omega) only [amL, ↓reduceIte]; try rfl) (dropFrom_sub _ _) g1 (AV.lives_p _ _) ⟨by rw [hone, allS_one], by rw [hone, allS_one]; exact g2, ⟨cur, rfl, rfl, g3⟩, g4⟩) | (rw [listsN_next hn2, allS_append, if_neg (by rw [h]; simp)] at hall; obtain ⟨g1, g2, g3, g4⟩ := hY.fin hcl hcl2 hfree hI hI2 b5 k3 (fun q hq h1 h2 => (hfr2 q h1 h2).trans ((upd_ne h2).trans (hfr1 q h1 h2 (by omega)))); refine retV_mk (res := bl _) (dropFrom bd os2) (by simp (disch := omega) only [o1, o2, o3, o4, o5, hfr0, upd_ne, encE_getD, encI_getD, set_encI, hlv, amL, amT, sA, sB, sC, sD, sE, sF, sG, sH, sI, sJ, sK, sL, sM, sN, sO, ↓reduceIte, reduceCtorEq]; try rfl) (dropFrom_sub _ _) g1 (AV.lives_p _ _) ⟨by rw [← hall, h], by rw [← hall]; exact g2, ⟨cur3, k1, k2, g3⟩, g4⟩) | (rw [listsN_end (by omega)] at hall; obtain ⟨g1, g2, g3, g4⟩ := hY.fin hcl hcl1 hfree hI hI1 b5 p5 (fun q hq h1 h2 => hfr1 q h1 h2 (by omega)); refine retV_mk (res := bl _) (dropFrom bd os1) (by simp (disch := omega) only [o1, o2, o3, o4, o5, hfr0, upd_ne, encE_getD, encI_getD, set_encI, hlv, amL, amT, sA, sB, sC, sD, sE, sF, sG, sH, sI, sJ, sK, sL, sM, sN, sO, ↓reduceIte, reduceCtorEq]; try rfl) (dropFrom_sub _ _) g1 (AV.lives_p _ _) ⟨by rw [← hall]; rfl, by rw [← hall]; exact g2, ⟨cur1, hc1, hc2, g3⟩, g4⟩) | (omega)
  ·first
   | exact Bool.noConfusion h
   |skip
    try simp only [decide_eq_false_iff_not] at h
    refine awp_skip ?_
    refine hK2 _ ?_
    refine awp_seq_k fun K5 hK5 => ?_
    refine awp_ops ?_
    have hi2 : i < a.entries.length := by omega
    obtain ⟨q1, q2, q3⟩ := hsm.2 i hi2
    have hhere := lists_here (a := a) (cur := cur) hi2
    simp (disch := omega) only [o3, hfr0, encE_getD, amL, amT, sA, sB, sE, sF, ↓reduceIte, reduceCtorEq]
    refine hK5 _ ?_
    refine awp_seq_k fun K6 hK6 => ?_
    refine awp_seq_k fun K7 hK7 => ?_
    refine awp_ops ?_
    have hcl7 : (Hp (upd os (bd + 7) (some (.cells [i64 (getE a.entries i).lo, i64 (getE a.entries i).hi])))).closed := closed_upd hcl (by rw [lives_cells_eq]; simp only [livesL_nil, livesL_cons, lives_p_eq, and_self])
    simp (disch := omega) only [amL, amT, sA, sB, ↓reduceIte]
    repeat' first | (refine EC_intro (by kernel_rfl) rfl (c66 _ _ (by omega) (by omega)) (by first | exact .inl rfl | exact .inr (.inl rfl)) ?_ ; simp (disch := omega) only [amL, sA])
    refine hK7 _ ?_
    refine awp_block ?_
    skip
    refine awp_loop_k (α := Nat × σ × List Int × (Nat → Option AO)) (fun x => ⟨T [(0, i64 i), (1, .ptr no 0), (2, .ptr ny 0), (3, .ptr nA 0), (4, .ptr nc 0), (7, .ptr (bd + 7) 0), (23, i64 ((getE a.entries i).hi - (getE a.entries i).lo + 1)), (24, i64 x.1)], x.2.2.2⟩) (fun x => ((getE a.entries i).hi - (getE a.entries i).lo + 1).toNat - x.1) (fun x => x.1 ≤ ((getE a.entries i).hi - (getE a.entries i).lo + 1).toNat ∧ x.2.2.1.length = cur.length ∧ x.2.2.1.take i = cur.take i ∧ go ((listsN (fun n => listsP (a.entries.drop (i + 1)) (cur.take i ++ [n])) (((getE a.entries i).hi - (getE a.entries i).lo + 1).toNat - x.1) ((getE a.entries i).lo + x.1)).length + r) x.2.1 ∧ I x.2.1 x.2.2.2 ∧ x.2.2.2 na = some (.arr 1 (x.2.2.1.map encI)) ∧ x.2.2.2 (bd + 7) = some (.cells [i64 (getE a.entries i).lo, i64 (getE a.entries i).hi]) ∧ (∀ q, ¬ F q → q ≠ na → q ≠ bd + 7 → x.2.2.2 q = os q) ∧ (Hp x.2.2.2).closed ∧ allS step x.2.1 (listsN (fun n => listsP (a.entries.drop (i + 1)) (cur.take i ++ [n])) (((getE a.entries i).hi - (getE a.entries i).lo + 1).toNat - x.1) ((getE a.entries i).lo + x.1)) = allS step s (listsP (a.entries.drop i) (cur.take i))) (0, s, cur, upd os (bd + 7) (some (.cells [i64 (getE a.entries i).lo, i64 (getE a.entries i).hi]))) ?_ ?_ (fun x hx8 K8 hK8 => ?_)
    · exact ⟨Nat.zero_le _, rfl, rfl, by rw [hhere] at hg; simpa using hg, hY.stable _ _ _ hI (fun q hq => upd_ne (by have := hF q hq; omega)), (upd_ne (by omega)).trans o5, upd_eq, fun q _ _ h => upd_ne h, hcl7, by rw [hhere]; simp⟩
    · refine le_os ?_ ?_ ?_ ?_ <;> (try simp (disch := omega) only [o1, o2, o3, o4, upd_ne, amL, sF, ↓reduceIte, reduceCtorEq]); all_goals first | exact hcl7 | exact Sub.refl _ | (rw [upd_upd]; exact Sub.refl _)
    obtain ⟨n, s1, cur1, os1⟩ := x; dsimp only at hx8 ⊢; obtain ⟨hn, hc1, hc2, hg1, hI1, p5, p7, hfr1, hcl1, hall⟩ := hx8
    refine awp_seq_k fun K9 hK9 => ?_
    refine awp_ops ?_
    simp (disch := omega) only [amL, amT, sA, sF, ↓reduceIte, reduceCtorEq]
    refine hK9 _ ?_
    refine awp_seq_k fun K10 hK10 => ?_
    refine awp_cond rfl (fun h => ?_) (fun h => ?_)
    ·first
     | exact Bool.noConfusion h
     |skip
      try simp only [decide_eq_true_eq] at h
      refine awp_skip ?_
      refine hK10 _ ?_
      refine awp_seq_k fun K11 hK11 => ?_
      refine awp_block ?_
      refine awp_seq_k fun K12 hK12 => ?_
      refine awp_ops ?_
      simp (disch := omega) only [amL, sA, sF, ↓reduceIte, reduceCtorEq]
      refine hK12 _ ?_
      refine awp_seq_k fun K13 hK13 => ?_
      refine awp_ops ?_
      have p1 := (hfr1 no f1 (Ne.symm d1) (by omega)).trans o1
      have p2 := (hfr1 ny f2 (Ne.symm d2) (by omega)).trans o2
      have p3 := (hfr1 nA f3 (Ne.symm d3) (by omega)).trans o3
      have p4 := (hfr1 nc f4 (Ne.symm d4) (by omega)).trans o4
      have hn2 : n < ((getE a.entries i).hi - (getE a.entries i).lo + 1).toNat := by omega
      simp (disch := omega) only [p1, p5, p7, encI_getD, set_encI, amL, amT, sA, sF, ↓reduceIte, reduceCtorEq]
      refine hK13 _ ?_
      refine awp_seq_k fun K14 hK14 => ?_
      refine awp_ops ?_
      have hg2 := hg1
      rw [listsN_next hn2, List.length_append, Nat.add_assoc] at hg2
      have hclN : (Hp (upd os1 na (some (.arr 1 (List.map encI (cur1.set i ((getE a.entries i).lo + n))))))).closed := closed_upd hcl1 (by rw [lives_arr_eq]; trivial)
      have hIN : I s1 (upd os1 na (some (.arr 1 (List.map encI (cur1.set i ((getE a.entries i).lo + n)))))) := hY.stable _ _ _ hI1 (fun q hq => upd_ne (fun e => f5 (e ▸ hq)))
      have hchN : Ch a no ny nA nc na yv (cur1.set i ((getE a.entries i).lo + n)) (upd os1 na (some (.arr 1 (List.map encI (cur1.set i ((getE a.entries i).lo + n)))))) := ⟨(upd_ne (Ne.symm d1)).trans (by rw [p1, List.length_set, hc1]), (upd_ne (Ne.symm d2)).trans p2, (upd_ne (Ne.symm d3)).trans p3, (upd_ne (Ne.symm d4)).trans p4, upd_eq, by rw [List.length_set, hc1, hlen]⟩
      have htk : (cur1.set i ((getE a.entries i).lo + n)).take (i + 1) = cur.take i ++ [(getE a.entries i).lo + n] := by rw [take_set (by omega), hc2]
      have hokN : ∀ x ∈ listsP (a.entries.drop (i + 1)) (cur.take i ++ [(getE a.entries i).lo + n]), ok x := fun x hx => hok x (by rw [hhere]; exact listsN_mem _ _ n hn2 hx)
      have hapN : Apart F mv (upd os1 na (some (.arr 1 (List.map encI (cur1.set i ((getE a.entries i).lo + n)))))) := (hap.of (F' := F) (fun q o hq ho => by
        by_cases e1 : q = na
        · subst e1; rw [p5] at ho; cases ho; exact .inr fun _ _ => rfl
        · by_cases e2 : q = bd + 7
          · subst e2; rw [p7] at ho; cases ho; exact .inr fun _ _ => rfl
          · rw [hfr1 q hq e1 e2] at ho; exact .inl ⟨hq, ho⟩)).upd (fun _ _ => rfl)
      have hih := ih _ (by omega) (i + 1) rfl (by omega) _ (cur1.set i ((getE a.entries i).lo + n)) s1 _ (bd + 40) hchN (by rw [htk]; exact hg2) hIN hapN (by rw [htk]; exact hokN)
      rw [htk] at hih
      have hfree1 : ∀ q, bd + 40 ≤ q → upd os1 na (some (.arr 1 (List.map encI (cur1.set i ((getE a.entries i).lo + n))))) q = none := fun q hq => by
        rw [upd_ne (by omega), hfr1 q (fun h => by have := hF q h; omega) (by omega) (by omega)]; exact hfree q (by omega)
      simp (disch := omega) only [p4, upd_ne, amL, amT, sA, sF, ↓reduceIte, reduceCtorEq]
      refine EV_intro3 [(0, i64 i), (1, .ptr no 0), (2, .ptr ny 0), (3, .ptr nA 0), (4, .ptr nc 0), (7, .ptr (bd + 7) 0), (23, i64 ((getE a.entries i).hi - (getE a.entries i).lo + 1)), (24, i64 n)] (by decide) hih (fun _ h => .inl h) ⟨stays_p, stays_ptr (fun h => f1 (hY.mvF _ h)), stays_ptr (fun h => f2 (hY.mvF _ h)), stays_ptr (fun h => f3 (hY.mvF _ h)), stays_ptr (fun h => f4 (hY.mvF _ h)), stays_ptr (fun h => hF7 (hY.mvF _ h)), stays_p, stays_p, trivial⟩ hfree1 (by simp only []; omega) (fun res os2 hR hcl2 hlv2 => ?_)
      obtain ⟨rfl, hI2, ⟨cur3, k1, k2, k3⟩, hfr2⟩ := hR
      rw [List.length_set, hc1] at k1
      replace k2 : cur3.take i = cur.take i := take_pre k2 (by rw [List.length_take]; omega)
      have r1 := (hfr2 no f1 (Ne.symm d1)).trans ((upd_ne (Ne.symm d1)).trans p1)
      have r2 := (hfr2 ny f2 (Ne.symm d2)).trans ((upd_ne (Ne.symm d2)).trans p2)
      have r3 := (hfr2 nA f3 (Ne.symm d3)).trans ((upd_ne (Ne.symm d3)).trans p3)
      have r4 := (hfr2 nc f4 (Ne.symm d4)).trans ((upd_ne (Ne.symm d4)).trans p4)
      have r7 := (hfr2 (bd + 7) hF7 (by omega)).trans ((upd_ne (by omega)).trans p7)
      simp (disch := omega) only [amL, sA, sF, ↓reduceIte, reduceCtorEq]
      simp only [r1, r2, r3, r4, r7, Option.isSome_some, true_and]
      refine hK14 _ ?_
      refine awp_cond rfl (fun h => ?_) (fun h => ?_)
      ·first
       | exact Bool.noConfusion h
       |skip
        try simp only [Bool.not_eq_true'] at h
        refine awp_seq_k fun K15 hK15 => ?_
        refine awp_ops ?_
        simp (disch := omega) only [amL, sA]
        refine hK15 _ ?_
        refine awp_ret ?_
        try simp (disch := omega) only [amL]
        first | (obtain ⟨g1, g2, g3, g4⟩ := hY.fin hcl hcl2 hfree hI hI2 b5 ((hfr2 na f5).trans o5) (fun q _ hq _ => hfr2 q hq); refine retV_mk (res := bl _) (dropFrom bd os2) (by simp (disch := omega) only [amL, ↓reduceIte]; try rfl) (dropFrom_sub _ _) g1 (AV.lives_p _ _) ⟨by rw [hone, allS_one], by rw [hone, allS_one]; exact g2, ⟨cur, rfl, rfl, g3⟩, g4⟩) | (rw [listsN_next hn2, allS_append, if_neg (by rw [h]; simp)] at hall; obtain ⟨g1, g2, g3, g4⟩ := hY.fin hcl hcl2 hfree hI hI2 b5 k3 (fun q hq h1 h2 => (hfr2 q h1 h2).trans ((upd_ne h2).trans (hfr1 q h1 h2 (by omega)))); refine retV_mk (res := bl _) (dropFrom bd os2) (by simp (disch := omega) only [amL, ↓reduceIte]; try rfl) (dropFrom_sub _ _) g1 (AV.lives_p _ _) ⟨by rw [← hall, h], by rw [← hall]; exact g2, ⟨cur3, k1, k2, g3⟩, g4⟩) | (rw [listsN_end (by omega)] at hall; obtain ⟨g1, g2, g3, g4⟩ := hY.fin hcl hcl1 hfree hI hI1 b5 p5 (fun q hq h1 h2 => hfr1 q h1 h2 (by omega)); refine retV_mk (res := bl _) (dropFrom bd os1) (by simp (disch := omega) only [o1, o2, o3, o4, o5, hfr0, upd_ne, encE_getD, encI_getD, set_encI, hlv, amL, amT, sA, sB, sC, sD, sE, sF, sG, sH, sI, sJ, sK, sL, sM, sN, sO, ↓reduceIte, reduceCtorEq]; try rfl) (dropFrom_sub _ _) g1 (AV.lives_p _ _) ⟨by rw [← hall]; rfl, by rw [← hall]; exact g2, ⟨cur1, hc1, hc2, g3⟩, g4⟩) | (omega)
      ·first
       | exact Bool.noConfusion h
       |skip
        try simp only [Bool.not_eq_false'] at h
        refine awp_skip ?_
        refine hK11 _ ?_
        refine awp_ops ?_
        simp (disch := omega) only [amL, amT, sA, sF, ↓reduceIte, reduceCtorEq]
        refine hK8 (n+1, (allS step s1 (listsP (a.entries.drop (i + 1)) (cur.take i ++ [(getE a.entries i).lo + n]))).1, cur3, os2) _ ?_ ?_ (le_os ?_ ?_ ?_ ?_)
        all_goals (try simp (disch := omega) only [amL, sF, ↓reduceIte, reduceCtorEq])
        all_goals first | omega | exact hcl2 | exact Sub.refl _ | exact ⟨hn2, k1, k2, allS_go hY _ _ hokN hg2 h, hI2, k3, r7, fun q h1 h2 h3 => (hfr2 q h1 h2).trans ((upd_ne h2).trans (hfr1 q h1 h2 h3)), hcl2, by rw [← hall, listsN_next hn2, allS_append, if_pos h]; rfl⟩ | (rw [r1, r2, r3, r4, r7]; exact ⟨rfl, rfl, rfl, rfl, rfl⟩) | (rw [r1]; rfl) | (rw [r2]; rfl) | (rw [r3]; rfl) | (rw [r4]; rfl) | (rw [r7]; rfl) | (omega)
    ·first
     | exact Bool.noConfusion h
     |skip
      try simp only [decide_eq_false_iff_not] at h
      refine awp_exit ?_
      refine hK6 _ ?_
      refine awp_seq_k fun K16 hK16 => ?_
      refine awp_ops ?_
      simp (disch := omega) only [amL, sA]
      refine hK16 _ ?_
      refine awp_ret ?_
      try simp (disch := omega) only [amL]
      first | (obtain ⟨g1, g2, g3, g4⟩ := hY.fin hcl hcl2 hfree hI hI2 b5 ((hfr2 na f5).trans o5) (fun q _ hq _ => hfr2 q hq); refine retV_mk (res := bl _) (dropFrom bd os2) (by simp (disch := omega) only [o1, o2, o3, o4, o5, hfr0, upd_ne, encE_getD, encI_getD, set_encI, hlv, amL, amT, sA, sB, sC, sD, sE, sF, sG, sH, sI, sJ, sK, sL, sM, sN, sO, ↓reduceIte, reduceCtorEq]; try rfl) (dropFrom_sub _ _) g1 (AV.lives_p _ _) ⟨by rw [hone, allS_one], by rw [hone, allS_one]; exact g2, ⟨cur, rfl, rfl, g3⟩, g4⟩) | (rw [listsN_next hn2, allS_append, if_neg (by rw [h]; simp)] at hall; obtain ⟨g1, g2, g3, g4⟩ := hY.fin hcl hcl2 hfree hI hI2 b5 k3 (fun q hq h1 h2 => (hfr2 q h1 h2).trans ((upd_ne h2).trans (hfr1 q h1 h2 (by omega)))); refine retV_mk (res := bl _) (dropFrom bd os2) (by simp (disch := omega) only [o1, o2, o3, o4, o5, hfr0, upd_ne, encE_getD, encI_getD, set_encI, hlv, amL, amT, sA, sB, sC, sD, sE, sF, sG, sH, sI, sJ, sK, sL, sM, sN, sO, ↓reduceIte, reduceCtorEq]; try rfl) (dropFrom_sub _ _) g1 (AV.lives_p _ _) ⟨by rw [← hall, h], by rw [← hall]; exact g2, ⟨cur3, k1, k2, g3⟩, g4⟩) | (rw [listsN_end (by omega)] at hall; obtain ⟨g1, g2, g3, g4⟩ := hY.fin hcl hcl1 hfree hI hI1 b5 p5 (fun q hq h1 h2 => hfr1 q h1 h2 (by omega)); refine retV_mk (res := bl _) (dropFrom bd os1) (by simp (disch := omega) only [amL, ↓reduceIte]; try rfl) (dropFrom_sub _ _) g1 (AV.lives_p _ _) ⟨by rw [← hall]; rfl, by rw [← hall]; exact g2, ⟨cur1, hc1, hc2, g3⟩, g4⟩) | (omega)
end AM.Try
end
/- The program: the lists of units, the truths, as functions that yield. -/
section
namespace AM.Try
open Go AM AM.Duty
open Nat renaming reduceLT → sA, reduceAdd → sB, reduceMul → sC, reduceSub → sD, reduceLeDiff → sE, reduceEqDiff → sF, reduceBEq → sG
open Int renaming reduceAdd → sH, reduceSub → sI, reduceMul → sJ, reduceLT → sK, reduceLE → sL, reduceNeg → sM, reduceToNat → sN, reduceEq → sO
set_option maxHeartbeats 8000000
set_option maxRecDepth 100000
theorem EO_mk26 {r : RB} {N : Nat} {s : St} {K : St → Prop} {d : Nat} {ty : TypeId} {pos : String} {after : Array Edge} {g : Option (Nat × Bool)} {l c : Operand} : EO Go.Proofs.Try.prog r N ⟨some d, .makeSlice 26 l c, ty, pos, after, g⟩ s K = EOp r.b N (some d) s K (fMk 1 8 [iv 0] (r.b + d) (ev s.t l) (ev s.t c)) :=
  EO_mk (e := 3) (z := [.int .i64 0]) (by rw [ty26]) (by rw [ty3]) (by rw [ty3]) (by rw [ty3]) (by decide) rfl (by decide) (by rw [ty3]; rfl)
theorem Yields.fin0 {yv : AV} {F mv : Nat → Prop} {ex : List Int → List AV} {ok : List Int → Prop} {σ : Type} {go : Nat → σ → Prop} {I : σ → (Nat → Option AO) → Prop} {step : σ → List Int → σ × Bool} (hY : Yields yv F mv ex ok go I step) {os os2 : Nat → Option AO} {bd : Nat} (hcl : (Hp os).closed) (hcl2 : (Hp os2).closed) (hfree : ∀ n, bd ≤ n → os n = none) {s s' : σ} (hI : I s os) (hI2 : I s' os2)
    (hfr : ∀ n, n < bd → ¬ F n → os2 n = os n) : (Hp (dropFrom bd os2)).closed ∧ I s' (dropFrom bd os2) ∧ ∀ n, ¬ F n → dropFrom bd os2 n = os n := by
  have hF : ∀ n, F n → n < bd := fun n hn => by obtain ⟨o, h, _⟩ := hY.foot s os n hI hn; exact lt_of_live hfree h
  refine ⟨dropFrom_closed hcl hcl2 hfree fun n hn => ?_, hY.stable s' os2 _ hI2 (fun n hn => dropFrom_lt (hF n hn)), fun n h1 => ?_⟩
  · by_cases h1 : F n
    · right
      intro o m h2 h3
      obtain ⟨o', h4, h5⟩ := hY.foot s' os2 n hI2 h1
      rw [h4] at h2; cases h2
      exact hF m (h5 m h3)
    · exact .inl (hfr n hn h1)
  · by_cases hb : n < bd
    · rw [dropFrom_lt hb]; exact hfr n hb h1
    · rw [dropFrom_ge (by omega), hfree n (by omega)]
theorem repl_encI (n : Nat) : List.replicate n [iv 0] = (List.replicate n 0).map encI := by rw [List.map_replicate]
theorem c107 {a : Acc} {yv : AV} {F mv : Nat → Prop} {ok : List Int → Prop} {σ : Type} {go : Nat → σ → Prop} {I : σ → (Nat → Option AO) → Prop} {step : σ → List Int → σ × Bool} (hY : Yields yv F mv (fun _ => []) ok go I step) (hcs : yv.cs? = some [yv]) (hsm : smallE a.entries) {nA : Nat} (fA : ¬ F nA) {s : σ} {os : Nat → Option AO} {bd : Nat} (oA : os nA = some (.cells (cA a))) {rr : Nat} (hg : go ((listsP a.entries []).length + rr) s) (hI : I s os) (hap : Apart F mv os) (hok : ∀ x ∈ listsP a.entries [], ok x) :
    VCallM Go.Proofs.Try.prog mv bd (.fn (.func 107) [] [.ptr nA 0]) [yv] os fun res os' => res = .tup [] ∧ I (allS step s (listsP a.entries [])).1 os' ∧ ∀ n, ¬ F n → os' n = os n := by
  refine vcall_mk (v := []) (q := []) (N := 12) (rs := []) Go.Proofs.Try.func107 rfl (by kernel_rfl) rfl rfl (fun hcl hfree => ?_)
  have hfr0 : ∀ k, os (bd + k) = none := fun k => hfree _ (by omega)
  have bA := lt_of_live hfree oA
  have hF : ∀ n, F n → n < bd := fun n hn => by obtain ⟨o, h, _⟩ := hY.foot s os n hI hn; exact lt_of_live hfree h
  have hFb : ∀ k, ¬ F (bd + k) := fun k h => by have := hF _ h; omega
  have hlv := hY.live _ _ hI
  have hsmall := hsm.1
  refine awp_seq_k fun K1 hK1 => ?_
  refine awp_ops ?_
  simp (disch := omega) only [hfr0, hcs, amL, sA, sB, ↓reduceIte]
  refine hK1 _ ?_
  refine awp_seq_k fun K2 hK2 => ?_
  refine awp_ops ?_
  simp (disch := omega) only [oA, hfr0, upd_ne, EO_mk26, fMk_int, repl_encI, amL, amT, sA, sF, sH, ↓reduceIte, reduceCtorEq]
  refine hK2 _ ?_
  refine awp_seq_k fun K3 hK3 => ?_
  refine awp_ops ?_
  simp (disch := omega) only [hfr0, upd_ne, amL, amT, sA, ↓reduceIte]
  refine hK3 _ ?_
  refine awp_seq_k fun K4 hK4 => ?_
  refine awp_ops ?_
  simp (disch := omega) only [amL, amT, sA, sF, ↓reduceIte, reduceCtorEq]
  refine hK4 _ ?_
  refine awp_ops ?_
  have hmA : ¬ mv nA := fun h => fA (hY.mvF _ h)
  have hmb : ∀ k, ¬ mv (bd + k) := fun k h => hFb k (hY.mvF _ h)
  have c1 : ∀ x ∈ [yv], x.stays mv := fun x hx => by simp at hx; subst hx; exact hY.stays
  have c2 : ∀ x ∈ [AV.own (bd + 8) a.entries.length], x.stays mv := fun x hx => by simp at hx; subst hx; exact stays_own (hmb 8)
  have c3 : ∀ x ∈ [AV.fn (Fn.func 108) [] [AV.ptr (bd + 3) 0, AV.ptr (bd + 2) 0, AV.ptr nA 0, AV.ptr (bd + 4) 0]], x.stays mv := fun x hx => by
    simp only [List.mem_singleton] at hx; subst hx
    refine stays_fn (fun y hy => by cases hy) (fun y hy => ?_)
    simp only [List.mem_cons, List.not_mem_nil, or_false] at hy
    rcases hy with rfl | rfl | rfl | rfl
    · exact stays_ptr (hmb 3)
    · exact stays_ptr (hmb 2)
    · exact stays_ptr hmA
    · exact stays_ptr (hmb 4)
  simp (disch := omega) only [amL, amT, sA, sF, ↓reduceIte]
  refine EV_intro3 [] (by decide) (c108 hY hsm (no := bd + 3) (ny := bd + 2) (nA := nA) (nc := bd + 4) (na := bd + 8) (hFb 3) (hFb 2) fA (hFb 4) (hFb 8) _ 0 rfl (Nat.zero_le _) rr (List.replicate a.entries.length 0) s _ (bd + 12) ⟨by simp (disch := omega) only [upd_ne, upd_eq, List.length_replicate], by simp (disch := omega) only [upd_ne, upd_eq], by simp (disch := omega) only [upd_ne]; exact oA, by simp (disch := omega) only [upd_eq], by simp (disch := omega) only [upd_ne, upd_eq], List.length_replicate ..⟩ hg (hY.stable _ _ _ hI (fun q hq => by have := hF q hq; simp (disch := omega) only [upd_ne])) ((((((hap.upd (clean_cells c1)).upd (fun _ _ => rfl)).upd (fun _ _ => rfl)).upd (clean_cells c2)).upd (fun _ _ => rfl)).upd (clean_cells c3)) hok) (fun _ h => .inl h) trivial (fun q hq => by simp (disch := omega) only [upd_ne]; exact hfree q (by omega)) (by simp only []; omega) (fun res os2 hR hcl2 hlv2 => ?_)
  obtain ⟨rfl, hI2, _, hfr2⟩ := hR
  simp (disch := omega) only [amL]
  try simp (disch := omega) only [oA, hfr0, upd_ne, hcs, EO_mk26, fMk_int, repl_encI, amL, amT, sA, sB, sC, sD, sE, sF, sG, sH, sI, sJ, sK, sL, sM, sN, sO, ↓reduceIte, reduceCtorEq]
  obtain ⟨g1, g2, g4⟩ := hY.fin0 hcl hcl2 hfree hI hI2 (fun q hq h1 => (hfr2 q h1 (by omega)).trans (by simp (disch := omega) only [upd_ne]))
  refine retV_mk (res := .tup []) (dropFrom bd os2) rfl (dropFrom_sub _ _) g1 (lives_isP _ rfl) ⟨rfl, g2, g4⟩
theorem c91 {a : Acc} {os : Nat → Option AO} {bd : Nat} : VCall Go.Proofs.Try.prog bd (.fn (.func 91) [] []) [avA a] os fun res os' => res = .fn (.func 107) [] [.ptr (bd + 1) 0] ∧ os' = upd os (bd + 1) (some (.cells (cA a))) := by
  refine vcall_mk (v := []) (q := []) (N := 4) (rs := [.tmp 2]) Go.Proofs.Try.func91 rfl (by kernel_rfl) rfl rfl (fun hcl hfree => ?_)
  have hfr0 : ∀ k, os (bd + k) = none := fun k => hfree _ (by omega)
  refine awp_seq_k fun K1 hK1 => ?_
  refine awp_ops ?_
  simp (disch := omega) only [hfr0, amL, sA, ↓reduceIte]
  refine hK1 _ ?_
  refine awp_seq_k fun K2 hK2 => ?_
  refine awp_ops ?_
  simp (disch := omega) only [amL, sA, sF, ↓reduceIte]
  refine hK2 _ ?_
  refine awp_ret ?_
  try simp (disch := omega) only [amL]
  refine retV_mk (res := .fn (.func 107) [] [.ptr (bd + 1) 0]) (upd os (bd + 1) (some (.cells (cA a)))) (by simp (disch := omega) only [amL, ↓reduceIte]; try rfl) (Sub.refl _) (closed_upd hcl (by rw [lives_cells_eq]; simp only [livesL_nil, livesL_cons, lives_p_eq, and_self])) ?_ ⟨rfl, rfl⟩
  rw [lives_fn_eq]; simp only [livesL_nil, livesL_cons, lives_ptr_eq, upd_eq, Option.isSome_some, and_self]
theorem c70 {a : Acc} {os : Nat → Option AO} {bd : Nat} : VCall Go.Proofs.Try.prog bd (.fn (.func 70) [] []) [avA a] os fun res os' => res = .fn (.func 90) [] [.ptr (bd + 1) 0] ∧ os' = upd os (bd + 1) (some (.cells (cA a))) := by
  refine vcall_mk (v := []) (q := []) (N := 4) (rs := [.tmp 2]) Go.Proofs.Try.func70 rfl (by kernel_rfl) rfl rfl (fun hcl hfree => ?_)
  have hfr0 : ∀ k, os (bd + k) = none := fun k => hfree _ (by omega)
  refine awp_seq_k fun K1 hK1 => ?_
  refine awp_ops ?_
  simp (disch := omega) only [hfr0, amL, sA, ↓reduceIte]
  refine hK1 _ ?_
  refine awp_seq_k fun K2 hK2 => ?_
  refine awp_ops ?_
  simp (disch := omega) only [amL, sA, sF, ↓reduceIte]
  refine hK2 _ ?_
  refine awp_ret ?_
  try simp (disch := omega) only [amL]
  refine retV_mk (res := .fn (.func 90) [] [.ptr (bd + 1) 0]) (upd os (bd + 1) (some (.cells (cA a)))) (by simp (disch := omega) only [amL, ↓reduceIte]; try rfl) (Sub.refl _) (closed_upd hcl (by rw [lives_cells_eq]; simp only [livesL_nil, livesL_cons, lives_p_eq, and_self])) ?_ ⟨rfl, rfl⟩
  rw [lives_fn_eq]; simp only [livesL_nil, livesL_cons, lives_ptr_eq, upd_eq, Option.isSome_some, and_self]
end AM.Try
end
/- The program: the truths, yielded one after the other. -/
section
namespace AM.Try
open Go AM AM.Duty
open Nat renaming reduceLT → sA, reduceAdd → sB, reduceMul → sC, reduceSub → sD, reduceLeDiff → sE, reduceEqDiff → sF, reduceBEq → sG
open Int renaming reduceAdd → sH, reduceSub → sI, reduceMul → sJ, reduceLT → sK, reduceLE → sL, reduceNeg → sM, reduceToNat → sN, reduceEq → sO
set_option maxHeartbeats 8000000
set_option maxRecDepth 100000
abbrev stK (k : LoopK) (j : Option Code) : LoopK := { k with state := if j.isNone then .ready else .done, pending := j }
structure Rounds (bdL : Nat) (k : LoopK) (tm : List (Nat × AV)) (v q : List Nat) (F mv : Nat → Prop) (ex : List Int → List AV) (ok : List Int → Prop) {σ : Type} (go : Nat → σ → Prop) (I : σ → (Nat → Option AO) → Prop) (bst : σ → List Int → σ × Option Code) : Prop where
  mvF : ∀ n, mv n → F n
  ready : k = stK k none
  lenp : ∀ x, (ex x).length + 1 = k.ps.length
  psn : ∀ p ∈ k.ps, p < k.n
  notF : ¬ F bdL
  tmF : ∀ m, (AO.loop k tm).clean m = false → F m
  stable : ∀ s os os', I s os → (∀ n, F n → os' n = os n) → I s os'
  foot : ∀ s os n, I s os → F n → ∃ o, os n = some o ∧ ∀ m, o.clean m = false → F m
  mono : ∀ r s, go (r + 1) s → go r s
  next : ∀ r s x, ok x → go (r + 1) s → (bst s x).2 = none → go r (bst s x).1
  body : ∀ r s x os bd na, ok x → go (r + 1) s → I s os → Apart (fun n => F n ∨ n = bdL) mv os → ¬ F na → na ≠ bdL → os na = some (.arr 1 (x.map encI)) → os bdL = some (.loop k tm) → (Hp os).closed → (∀ n, bd ≤ n → os n = none) → bdL < bd →
    ∀ l, AWP Go.Proofs.Try.prog ⟨⟨some l, mv⟩, bd, v, q⟩ k.n k.assign ⟨roundT k.ps (.own na x.length :: ex x) (T tm), os⟩ (thenQ (fun s1 => s1.o bdL = some (.loop k tm) ∧ AWP Go.Proofs.Try.prog ⟨⟨some l, mv⟩, bd, v, q⟩ k.n k.body ⟨s1.t, upd s1.o bdL (some (.loop { k with state := .busy } tm))⟩
      (RoundQ bdL k tm fun res os' => res = bl (bst s x).2.isNone ∧ (I (bst s x).1 os' ∧ os' bdL = some (.loop (stK k (bst s x).2) tm)) ∧ ∀ n, ¬ (F n ∨ n = bdL) → os' n = os n)) (fun _ _ => False))
theorem Rounds.yields {bdL : Nat} {k : LoopK} {tm : List (Nat × AV)} {v q : List Nat} {F mv : Nat → Prop} {ex : List Int → List AV} {ok : List Int → Prop} {σ : Type} {go : Nat → σ → Prop} {I : σ → (Nat → Option AO) → Prop} {bst : σ → List Int → σ × Option Code} (h : Rounds bdL k tm v q F mv ex ok go I bst) :
    Yields (.yld bdL) (fun n => F n ∨ n = bdL) mv ex ok (fun r (s : σ × Option Code) => go r s.1 ∧ s.2 = none) (fun s os => I s.1 os ∧ os bdL = some (.loop (stK k s.2) tm)) (fun s x => (bst s.1 x, (bst s.1 x).2.isNone)) where
  mvF n hn := .inl (h.mvF n hn)
  stays := stays_yld (fun hm => h.notF (h.mvF _ hm))
  live s os hI := by rw [lives_yld_eq, hI.2]; rfl
  own m hm := by
    simp only [AV.clean, bne_eq_false_iff_eq] at hm
    exact .inr hm.symm
  stable s os os' hI he := ⟨h.stable s.1 os os' hI.1 (fun n hn => he n (.inl hn)), (he bdL (.inr rfl)).trans hI.2⟩
  foot s os n hI hn := by
    rcases hn with hn | rfl
    · obtain ⟨o, h1, h2⟩ := h.foot s.1 os n hI.1 hn
      exact ⟨o, h1, fun m hm => .inl (h2 m hm)⟩
    · exact ⟨_, hI.2, fun m hm => .inl (h.tmF m hm)⟩
  mono r s hg := ⟨h.mono r s.1 hg.1, hg.2⟩
  next r s x ho hg hs := by
    have h1 : (bst s.1 x).2 = none := Option.isNone_iff_eq_none.1 hs
    exact ⟨h.next r s.1 x ho hg.1 h1, h1⟩
  call r s x os bd na ho hg hI hap hF ha := by
    have hloop : os bdL = some (.loop k tm) := by
      have := hI.2
      rw [hg.2, ← h.ready] at this
      exact this
    intro hfree
    have hb := lt_of_live hfree hloop
    refine vcall_yield (fun hm => h.notF (h.mvF _ hm)) (k := k) (tm := tm) (v := v) (q := q) hloop (by rw [h.ready]; rfl) (by have := h.lenp x; simp; omega) h.psn (fun hcl _ l => ?_) hfree
    exact h.body r s.1 x os bd na ho hg.1 hI.1 hap (fun hh => hF (.inl hh)) (fun hh => hF (.inr hh)) ha hloop hcl hfree hb l
theorem round_fin {yv : AV} {F mv : Nat → Prop} {ex : List Int → List AV} {ok : List Int → Prop} {σ : Type} {go : Nat → σ → Prop} {I : σ → (Nat → Option AO) → Prop} {step : σ → List Int → σ × Bool} (hY : Yields yv F mv ex ok go I step) {os os2 : Nat → Option AO} {bd bdL : Nat} {k k' : LoopK} {tm : List (Nat × AV)} (fL : ¬ F bdL) (hcl : (Hp os).closed) (hcl2 : (Hp os2).closed) (hfree : ∀ n, bd ≤ n → os n = none) {s s' : σ} (hI : I s os) (hI2 : I s' os2) (hl : os bdL = some (.loop k tm)) (hl2 : os2 bdL = some (.loop k' tm))
    (hfr : ∀ n, n < bd → ¬ F n → n ≠ bdL → os2 n = os n) (j : Option Code) :
    Sub (upd (dropFrom bd os2) bdL (some (.loop (stK k j) tm))) (upd os2 bdL (some (.loop (stK k j) tm))) ∧ (Hp (upd (dropFrom bd os2) bdL (some (.loop (stK k j) tm)))).closed ∧ I s' (upd (dropFrom bd os2) bdL (some (.loop (stK k j) tm))) ∧ ∀ n, ¬ F n → n ≠ bdL → upd (dropFrom bd os2) bdL (some (.loop (stK k j) tm)) n = os n := by
  have hF : ∀ n, F n → n < bd := fun n hn => by obtain ⟨o, h, _⟩ := hY.foot s os n hI hn; exact lt_of_live hfree h
  have hb := lt_of_live hfree hl
  have hnm : ∀ m, (AO.loop k tm).clean m = false → m < bd := fun m hm => by
    have : (os m).isSome = true := hcl.2 bdL _ hl m hm
    cases Nat.lt_or_ge m bd with
    | inl h => exact h
    | inr h' => rw [hfree m h'] at this; cases this
  refine ⟨fun n => ?_, closed_upd (dropFrom_closed hcl hcl2 hfree fun n hn => ?_) fun m hm => ?_, hY.stable s' os2 _ hI2 fun n hn => ?_, fun n h1 h2 => ?_⟩
  · by_cases e : n = bdL
    · subst e; right; rw [upd_eq, upd_eq]
    · rw [upd_ne e, upd_ne e]; exact dropFrom_sub bd os2 n
  · by_cases h1 : F n
    · right
      intro o m h2 h3
      obtain ⟨o', h4, h5⟩ := hY.foot s' os2 n hI2 h1
      rw [h4] at h2; cases h2
      exact hF m (h5 m h3)
    · by_cases h2 : n = bdL
      · right
        intro o m h3 h4
        subst h2
        rw [hl2] at h3; cases h3
        exact hnm m h4
      · exact .inl (hfr n hn h1 h2)
  · have hmb := hnm m hm
    have h3 : (os2 m).isSome = true := hcl2.2 bdL _ hl2 m hm
    show (upd (dropFrom bd os2) bdL _ m).isSome = true
    by_cases e : m = bdL
    · subst e; rw [upd_eq]; rfl
    · rw [upd_ne e, dropFrom_lt hmb]; exact h3
  · have e : n ≠ bdL := fun e => fL (by rw [← e]; exact hn)
    rw [upd_ne e, dropFrom_lt (hF n hn)]
  · rw [upd_ne h2]
    by_cases hn : n < bd
    · rw [dropFrom_lt hn]; exact hfr n hn h1 h2
    · rw [dropFrom_ge (by omega), hfree n (by omega)]
def bst90 {σ : Type} (a : Acc) (step : σ → List Int → σ × Bool) (s : σ) (x : List Int) : σ × Option Code :=
  if (playS a x [] true).2 = true then ((step s x).1, if (step s x).2 = true then none else some .ret) else (s, none)
abbrev exA (a : Acc) (x : List Int) : List AV := [.agg ((pad (playS a x [] true).1).map i64)]
theorem scal_ints (l : List Int) : (AV.agg (l.map i64)).scal = true := by
  show AV.scal.scalL (l.map i64) = true
  induction l with
  | nil => rfl
  | cons x l ih => show (true && AV.scal.scalL (l.map i64)) = true; rw [ih]; rfl
theorem scal_res (l : List Int) (b : Bool) : (AV.tup [.agg (l.map i64), bl b]).scal = true := by
  show ((AV.agg (l.map i64)).scal && (true && true)) = true
  rw [scal_ints]; rfl
theorem take_enc {l : List Int} : (List.map encI l).take l.length = List.map encI l := List.take_of_length_le (by simp)
theorem apart90 {a : Acc} {F mv : Nat → Prop} {os : Nat → Option AO} {nA nb bdL b4 : Nat} {yv : AV} {k : LoopK} {X : Option AO} {l : List Int} (hap : Apart (fun n => (F n ∨ n = nA ∨ n = nb) ∨ n = bdL) mv os) (hs : yv.stays mv) (oA : os nA = some (.cells (cA a))) (ob : os nb = some (.cells [yv])) (hmA : ¬ mv nA) (hmb : ¬ mv nb) :
    Apart F mv (upd (upd (upd os bdL (some (.loop k [(1, .ptr nA 0), (2, .ptr nb 0)]))) b4 X) b4 (some (.cells (l.map i64)))) := hap.of fun q o hq ho => by
  by_cases e4 : q = b4
  · subst e4; rw [upd_eq] at ho; cases ho; exact .inr fun m _ => clean_ints
  · rw [upd_ne e4, upd_ne e4] at ho
    by_cases eL : q = bdL
    · subst eL; rw [upd_eq] at ho; cases ho
      refine .inr fun m hm => ?_
      have h1 := stays_ptr (off := 0) hmA m hm
      have h2 := stays_ptr (off := 0) hmb m hm
      simp only [AO.clean, List.map_cons, List.map_nil, AV.clean.cleanL, h1, h2, Bool.and_self]
    · rw [upd_ne eL] at ho
      by_cases eA : q = nA
      · subst eA; rw [oA] at ho; cases ho; exact .inr fun m _ => clean_cA
      · by_cases eb : q = nb
        · subst eb; rw [ob] at ho; cases ho
          exact .inr (clean_cells fun x hx => by simp at hx; subst hx; exact hs)
        · exact .inl ⟨fun h => h.elim (fun h => h.elim hq (fun h => h.elim eA eb)) eL, ho⟩
theorem rounds90 {a : Acc} {yv : AV} {F mv : Nat → Prop} {ok : List Int → Prop} {σ : Type} {go : Nat → σ → Prop} {I : σ → (Nat → Option AO) → Prop} {step : σ → List Int → σ × Bool} (hY : Yields yv F mv (exA a) ok go I step) (_ : yv.cs? = some [yv]) (hf : faultS a = 0) {nA nb bdL : Nat} (fA : ¬ F nA) (fb : ¬ F nb) (fL : ¬ F bdL) (hAb : nA ≠ nb) (hAL : nA ≠ bdL) (hbL : nb ≠ bdL)
    {A B : Code} (hcode : (Go.Proofs.Try.f90.body.bind rangeOf) = some (A, B)) :
    Rounds bdL ⟨23, [8], A, B, .ready, none⟩ [(1, .ptr nA 0), (2, .ptr nb 0)] [91] [] (fun n => F n ∨ n = nA ∨ n = nb) mv (fun _ => []) (fun x => listedP a.entries x = true ∧ ((playS a x [] true).2 = true → ok x)) go (fun s os => I s os ∧ os nA = some (.cells (cA a)) ∧ os nb = some (.cells [yv])) (bst90 a step) where
  mvF n hn := .inl (hY.mvF n hn)
  ready := rfl
  lenp _ := rfl
  psn p hp := by simp at hp; subst hp; exact (by decide : 8 < 23)
  notF h := h.elim fL (fun h => h.elim (fun h => hAL h.symm) (fun h => hbL h.symm))
  tmF m hm := by
    right
    by_cases e1 : m = nA
    · exact .inl e1
    · by_cases e2 : m = nb
      · exact .inr e2
      · simp [AO.clean, AV.clean, AV.clean.cleanL, Ne.symm e1, Ne.symm e2] at hm
  stable s os os' hI he := ⟨hY.stable s os os' hI.1 (fun n hn => he n (.inl hn)), (he nA (.inr (.inl rfl))).trans hI.2.1, (he nb (.inr (.inr rfl))).trans hI.2.2⟩
  foot s os n hI hn := by
    rcases hn with hn | rfl | rfl
    · obtain ⟨o, h1, h2⟩ := hY.foot s os n hI.1 hn
      exact ⟨o, h1, fun m hm => .inl (h2 m hm)⟩
    · exact ⟨_, hI.2.1, fun m hm => by rw [clean_cA] at hm; cases hm⟩
    · refine ⟨_, hI.2.2, fun m hm => .inl (hY.own m ?_)⟩
      simpa [AO.clean, AV.clean.cleanL] using hm
  mono := hY.mono
  next r s x ho hg h := by
    unfold bst90 at h ⊢
    split at h
    · rename_i hp
      rw [if_pos hp]
      split at h
      · rename_i h2
        exact hY.next r s x (ho.2 hp) hg h2
      · cases h
    · rename_i hp; rw [if_neg hp]; exact hY.mono r s hg
  body r s x os bd na ho hg hI hap hF hne ha hl hcl hfree hb l := by
    obtain ⟨hI, oA, ob⟩ := hI
    obtain ⟨hol, hok⟩ := ho
    have hF1 : ¬ F na := fun h => hF (.inl h)
    have hfr0 : ∀ k, os (bd + k) = none := fun k => hfree _ (by omega)
    have hlv := hY.live _ _ hI
    have bA := lt_of_live hfree oA
    have bb := lt_of_live hfree ob
    have bna := lt_of_live hfree ha
    have hFlt : ∀ n, F n → n < bd := fun n hn => by obtain ⟨o, h, _⟩ := hY.foot s os n hI hn; exact lt_of_live hfree h
    have hfit := fitP_of hf hol
    have hpl := pad_len (playS_le (t := x) (paid := []) (ask := true) hfit.last1)
    have hpc := putCells_all (vs := List.map i64 (pad (playS a x [] true).1)) (l := [i64 0, i64 0, i64 0, i64 0, i64 0, i64 0, i64 0, i64 0, i64 0, i64 0, i64 0, i64 0]) (by rw [List.length_map, hpl]; rfl)
    have htk := pad_take (acc := (playS a x [] true).1) (playS_le (t := x) (paid := []) (ask := true) hfit.last1)
    cases (show some (_, _) = some (A, B) from hcode)
    show AWP _ _ 23 _ ⟨T [(8, .own na x.length), (1, .ptr nA 0), (2, .ptr nb 0)], os⟩ _
    refine awp_ops ?_
    simp (disch := omega) only [hl, amL, sA, ↓reduceIte]
    try simp (disch := omega) only [hl, amL, amT, sA, sB, sC, sD, sE, sF, sG, sH, sI, sJ, sK, sL, sM, sN, sO, ↓reduceIte, reduceCtorEq]
    skip
    refine awp_block ?_
    refine awp_seq_k fun K1 hK1 => ?_
    refine awp_ops ?_
    simp (disch := omega) only [oA, ha, upd_ne, take_enc, elO_arr, amL, amT, sA, sB, sF, sG, ↓reduceIte]
    repeat' first | (refine EC_intro (by kernel_rfl) rfl (PCall.of_nil 2 rfl (c59 a x [] true hfit (by simp))) (.inl (scal_res _ _)) ?_ ; simp (disch := omega) only [hfr0, upd_ne, upd_eq, hpl, hpc, amL, amT, sA, sB, sF, ↓reduceIte])
    refine hK1 _ ?_
    refine awp_seq_k fun K2 hK2 => ?_
    refine awp_ops ?_
    simp (disch := omega) only [amL, sA, ↓reduceIte]
    repeat' first | (refine EG_dec (fun h => ?_) (fun h => ?_) <;> simp (disch := omega) only [h, oA, ob, ha, hcs, hl, hfr0, upd_ne, upd_eq, hlv, hpl, htk, hpc, take_enc, RoundQ_normal, RoundQ_ret, elO_arr, amL, amT, sA, sB, sC, sD, sE, sF, sG, sH, sI, sJ, sK, sL, sM, sN, sO, ↓reduceIte, reduceCtorEq]) | (refine EG_cases (fun h => ?_) (fun h => ?_) <;> simp (disch := omega) only [h, ob, upd_ne, upd_eq, hpl, htk, amL, amT, sA, sF, ↓reduceIte])
    all_goals first
      | (refine EV_intro3 [(15, bl true), (16, bl true)] (by decide) (hY.call r s x _ (bd + 23) na (hok (by assumption)) hg (hY.stable _ _ _ hI (fun q hq => by have e1 := hFlt q hq; have e2 : q ≠ bdL := fun e => fL (e ▸ hq); simp (disch := omega) only [upd_ne])) (apart90 hap hY.stays oA ob (fun h => fA (hY.mvF _ h)) (fun h => fb (hY.mvF _ h))) hF1 (by simp (disch := omega) only [upd_ne]; exact ha)) (fun _ h => .inl h) ⟨stays_p, stays_p, trivial⟩ (fun q hq => by simp (disch := omega) only [upd_ne]; exact hfree q (by omega)) (by simp only []; omega) (fun res os2 hR hcl2 hlv2 => ?_); obtain ⟨rfl, hI2, hfr2⟩ := hR; simp (disch := omega) only [amL, sA, sF, ↓reduceIte])
      | skip
    all_goals
     skip
     refine hK2 _ ?_
     refine awp_cond rfl (fun h => ?_) (fun h => ?_)
     ·first
      | exact Bool.noConfusion h
      |skip
       try simp only [Bool.not_eq_true'] at h
       refine awp_ret ?_
       try simp (disch := omega) only [RoundQ_ret, amL]
       first
         | (have hp0 : (playS a x [] true).2 = false := by assumption
            refine round_mk os (by simp (disch := omega) only [upd_ne, upd_eq]) (fun q => ?_) hcl ⟨?_, ⟨?_, ?_⟩, fun _ _ => rfl⟩
            · by_cases e1 : q = bdL
              · subst e1; right; rw [upd_eq]; exact hl
              · by_cases e2 : q = bd + 4
                · left; rw [e2]; exact hfr0 4
                · right; simp (disch := omega) only [upd_ne]
            · rw [bst90, if_neg (by rw [hp0]; simp)]
            · rw [bst90, if_neg (by rw [hp0]; simp)]; exact ⟨hI, oA, ob⟩
            · rw [bst90, if_neg (by rw [hp0]; simp)]; exact hl)
         | (have hp : (playS a x [] true).2 = true := by assumption
            have hs : (step s x).2 = false := by assumption
            have hl2 := (hfr2 bdL fL).trans (by simp (disch := omega) only [upd_ne]; exact upd_eq)
            obtain ⟨g1, g2, g3, g4⟩ := round_fin hY fL hcl hcl2 hfree hI hI2 hl hl2 (fun q hq h1 h2 => (hfr2 q h1).trans (by simp (disch := omega) only [upd_ne])) (some .ret)
            have hb9 : bst90 a step s x = ((step s x).1, some .ret) := by rw [bst90, if_pos hp, hs]; rfl
            refine round_mk _ hl2 g1 g2 ?_
            rw [hb9]
            exact ⟨rfl, ⟨⟨g3, (g4 nA fA hAL).trans oA, (g4 nb fb hbL).trans ob⟩, upd_eq⟩, fun n hn => g4 n (fun h => hn (.inl (.inl h))) (fun h => hn (.inr h))⟩)
         | (have hp : (playS a x [] true).2 = true := by assumption
            have hs : (step s x).2 = true := by assumption
            have hl2 := (hfr2 bdL fL).trans (by simp (disch := omega) only [upd_ne]; exact upd_eq)
            obtain ⟨g1, g2, g3, g4⟩ := round_fin hY fL hcl hcl2 hfree hI hI2 hl hl2 (fun q hq h1 h2 => (hfr2 q h1).trans (by simp (disch := omega) only [upd_ne])) (none)
            have hb9 : bst90 a step s x = ((step s x).1, none) := by rw [bst90, if_pos hp, hs]; rfl
            refine round_mk _ hl2 g1 g2 ?_
            rw [hb9]
            exact ⟨rfl, ⟨⟨g3, (g4 nA fA hAL).trans oA, (g4 nb fb hbL).trans ob⟩, upd_eq⟩, fun n hn => g4 n (fun h => hn (.inl (.inl h))) (fun h => hn (.inr h))⟩)
         | (omega)
     ·first
      | exact Bool.noConfusion h
      |skip
       try simp only [Bool.not_eq_false'] at h
       refine awp_skip ?_
       try simp (disch := omega) only [RoundQ_normal, amL]
       first
         | (have hp0 : (playS a x [] true).2 = false := by assumption
            refine round_mk os (by simp (disch := omega) only [upd_ne, upd_eq]) (fun q => ?_) hcl ⟨?_, ⟨?_, ?_⟩, fun _ _ => rfl⟩
            · by_cases e1 : q = bdL
              · subst e1; right; rw [upd_eq]; exact hl
              · by_cases e2 : q = bd + 4
                · left; rw [e2]; exact hfr0 4
                · right; simp (disch := omega) only [upd_ne]
            · rw [bst90, if_neg (by rw [hp0]; simp)]
            · rw [bst90, if_neg (by rw [hp0]; simp)]; exact ⟨hI, oA, ob⟩
            · rw [bst90, if_neg (by rw [hp0]; simp)]; exact hl)
         | (have hp : (playS a x [] true).2 = true := by assumption
            have hs : (step s x).2 = false := by assumption
            have hl2 := (hfr2 bdL fL).trans (by simp (disch := omega) only [upd_ne]; exact upd_eq)
            obtain ⟨g1, g2, g3, g4⟩ := round_fin hY fL hcl hcl2 hfree hI hI2 hl hl2 (fun q hq h1 h2 => (hfr2 q h1).trans (by simp (disch := omega) only [upd_ne])) (some .ret)
            have hb9 : bst90 a step s x = ((step s x).1, some .ret) := by rw [bst90, if_pos hp, hs]; rfl
            refine round_mk _ hl2 g1 g2 ?_
            rw [hb9]
            exact ⟨rfl, ⟨⟨g3, (g4 nA fA hAL).trans oA, (g4 nb fb hbL).trans ob⟩, upd_eq⟩, fun n hn => g4 n (fun h => hn (.inl (.inl h))) (fun h => hn (.inr h))⟩)
         | (have hp : (playS a x [] true).2 = true := by assumption
            have hs : (step s x).2 = true := by assumption
            have hl2 := (hfr2 bdL fL).trans (by simp (disch := omega) only [upd_ne]; exact upd_eq)
            obtain ⟨g1, g2, g3, g4⟩ := round_fin hY fL hcl hcl2 hfree hI hI2 hl hl2 (fun q hq h1 h2 => (hfr2 q h1).trans (by simp (disch := omega) only [upd_ne])) (none)
            have hb9 : bst90 a step s x = ((step s x).1, none) := by rw [bst90, if_pos hp, hs]; rfl
            refine round_mk _ hl2 g1 g2 ?_
            rw [hb9]
            exact ⟨rfl, ⟨⟨g3, (g4 nA fA hAL).trans oA, (g4 nb fb hbL).trans ob⟩, upd_eq⟩, fun n hn => g4 n (fun h => hn (.inl (.inl h))) (fun h => hn (.inr h))⟩)
         | (omega)
theorem listsN_get {f : Int → List (List Int)} {x : List Int} : ∀ (c : Nat) (n : Int), x ∈ listsN f c n → ∃ k : Nat, k < c ∧ x ∈ f (n + k)
  | 0, _, h => by cases h
  | c + 1, n, h => by
    simp only [listsN, List.mem_append] at h
    rcases h with h | h
    · exact ⟨0, by omega, by simpa using h⟩
    · obtain ⟨k, h1, h2⟩ := listsN_get c (n + 1) h
      exact ⟨k + 1, by omega, by rw [show n + ((k + 1 : Nat) : Int) = n + 1 + k by omega]; exact h2⟩
theorem lists_listed : ∀ (es : List Entry) (p x : List Int), x ∈ listsP es p → ∃ y, x = p ++ y ∧ listedP es y = true
  | [], p, x, h => by
    simp only [listsP, List.mem_singleton] at h
    exact ⟨[], by simpa using h, rfl⟩
  | e :: es, p, x, h => by
    obtain ⟨k, h1, h2⟩ := listsN_get _ _ h
    obtain ⟨y, rfl, hy⟩ := lists_listed es _ x h2
    refine ⟨(e.lo + k) :: y, by simp, ?_⟩
    simp only [listedP, hy, Bool.and_true, inB, Bool.and_eq_true, decide_eq_true_eq]
    omega
def truthsL (a : Acc) : List (List Int) := (listsP a.entries []).filter fun x => (playS a x [] true).2
theorem allS_90 {σ : Type} {a : Acc} {step : σ → List Int → σ × Bool} : ∀ (l : List (List Int)) (s : σ), (allS (fun (s : σ × Option Code) x => (bst90 a step s.1 x, (bst90 a step s.1 x).2.isNone)) (s, none) l).1.1 = (allS step s (l.filter fun x => (playS a x [] true).2)).1 ∧
    ((allS (fun (s : σ × Option Code) x => (bst90 a step s.1 x, (bst90 a step s.1 x).2.isNone)) (s, none) l).1.2 = none ∨ (allS (fun (s : σ × Option Code) x => (bst90 a step s.1 x, (bst90 a step s.1 x).2.isNone)) (s, none) l).1.2 = some .ret)
  | [], s => ⟨rfl, .inl rfl⟩
  | x :: l, s => by
    cases hp : (playS a x [] true).2 with
    | false =>
      have hb : bst90 a step s x = (s, none) := by rw [bst90, if_neg (by rw [hp]; simp)]
      simp only [allS, hb, Option.isNone_none, if_true, List.filter_cons, hp, Bool.false_eq_true, if_false]
      exact allS_90 l s
    | true =>
      cases hs : (step s x).2 with
      | true =>
        have hb : bst90 a step s x = ((step s x).1, none) := by rw [bst90, if_pos hp, hs]; rfl
        simp only [allS, hb, Option.isNone_none, if_true, List.filter_cons, hp, hs]
        exact allS_90 l _
      | false =>
        have hb : bst90 a step s x = ((step s x).1, some .ret) := by rw [bst90, if_pos hp, hs]; rfl
        simp only [allS, hb, Option.isNone_some, Bool.false_eq_true, if_false, List.filter_cons, hp, hs, if_true]
        exact ⟨trivial, .inr trivial⟩
theorem tm_get {t : Nat → AV} {tm : List (Nat × AV)} (h : leT t tm) : ∀ (j : Nat) (p : Nat × AV), tm[j]? = some p → p.2 = .undef ∨ p.2 = t p.1 := by
  induction tm with
  | nil => intro j p hp; simp at hp
  | cons x r ih =>
    obtain ⟨i, v⟩ := x
    rw [leT_cons] at h
    intro j p hp
    cases j with
    | zero => simp at hp; subst hp; exact .inr h.1.symm
    | succ j => exact ih h.2 j p (by simpa using hp)
theorem c90 {a : Acc} {yv : AV} {F mv : Nat → Prop} {ok : List Int → Prop} {σ : Type} {go : Nat → σ → Prop} {I : σ → (Nat → Option AO) → Prop} {step : σ → List Int → σ × Bool} (hY : Yields yv F mv (exA a) ok go I step) (hcs : yv.cs? = some [yv]) (hf : faultS a = 0) {nA : Nat} (fA : ¬ F nA) {s : σ} {os : Nat → Option AO} {bd : Nat} (oA : os nA = some (.cells (cA a))) {rr : Nat} (hg : go ((listsP a.entries []).length + rr) s) (hI : I s os) (hap : Apart F mv os) (hok : ∀ x ∈ truthsL a, ok x) :
    VCallM Go.Proofs.Try.prog mv bd (.fn (.func 90) [] [.ptr nA 0]) [yv] os fun res os' => res = .tup [] ∧ I (allS step s (truthsL a)).1 os' ∧ ∀ n, ¬ F n → os' n = os n := by
  refine vcalld_mk (v := [91]) (q := []) (N := 23) (rs := []) Go.Proofs.Try.func90 rfl (by kernel_rfl) rfl rfl (fun hcl hfree => ?_)
  have hfr0 : ∀ k, os (bd + k) = none := fun k => hfree _ (by omega)
  have bA := lt_of_live hfree oA
  have hF : ∀ n, F n → n < bd := fun n hn => by obtain ⟨o, h, _⟩ := hY.foot s os n hI hn; exact lt_of_live hfree h
  have hFb : ∀ k, ¬ F (bd + k) := fun k h => by have := hF _ h; omega
  have hlv := hY.live _ _ hI
  obtain ⟨z1, z2, z3, z4, z5, z6⟩ := fault_zero hf
  have hsm := small_of_all (by omega) z5
  obtain ⟨A, B, hcode⟩ : ∃ A B, (Go.Proofs.Try.f90.body.bind rangeOf) = some (A, B) := ⟨_, _, rfl⟩
  have hRd := rounds90 (bdL := bd + 30) (nA := nA) (nb := bd + 2) hY hcs hf fA (hFb 2) (hFb 30) (by omega) (by omega) (by omega) hcode
  refine awpd_seq_p fun K1 hK1 => ?_
  refine awp_ops ?_
  simp (disch := omega) only [hfr0, hcs, amL, sA, sB, ↓reduceIte]
  refine hK1 _ ?_
  refine awpd_seq_p fun K2 hK2 => ?_
  refine awp_ops ?_
  simp (disch := omega) only [oA, upd_ne, amL, amT, sA, sB, sF, ↓reduceIte, reduceCtorEq]
  refine EV_intro2 [(1, .ptr nA 0), (2, .ptr (bd + 2) 0)] (by decide) (c91 (bd := bd + 23)) (fun q hq => by simp (disch := omega) only [upd_ne]; exact hfree q (by omega)) (by simp only []; omega) (fun res os2 hR hcl2 hlv2 => ?_)
  obtain ⟨rfl, rfl⟩ := hR
  simp (disch := omega) only [oA, upd_ne, amL, sF, ↓reduceIte, reduceCtorEq]
  refine hK2 _ ?_
  refine awpd_block ?_
  have hap9 : Apart (fun n => (F n ∨ n = nA ∨ n = bd + 2) ∨ n = bd + 30) mv (upd (upd (upd os (bd + 2) (some (.cells [yv]))) (bd + 23 + 1) (some (.cells (cA a)))) (bd + 30) (some (.loop (stK ⟨23, [8], A, B, .ready, none⟩ none) [(1, .ptr nA 0), (2, .ptr (bd + 2) 0)]))) := hap.of fun q o hq ho => by
    rw [upd_ne (fun e => hq (.inr e))] at ho
    by_cases e1 : q = bd + 23 + 1
    · subst e1; rw [upd_eq] at ho; cases ho; exact .inr fun m _ => clean_cA
    · rw [upd_ne e1, upd_ne (fun e => hq (.inl (.inr (.inr e))))] at ho
      exact .inl ⟨fun h => hq (.inl (.inl h)), ho⟩
  have hI0 : I s (upd (upd (upd os (bd + 2) (some (.cells [yv]))) (bd + 23 + 1) (some (.cells (cA a)))) (bd + 30) (some (.loop (stK ⟨23, [8], A, B, .ready, none⟩ none) [(1, .ptr nA 0), (2, .ptr (bd + 2) 0)]))) := hY.stable _ _ _ hI (fun q hq => by have := hF q hq; simp (disch := omega) only [upd_ne])
  have hc := c107 hRd.yields rfl hsm (nA := bd + 23 + 1) (s := (s, none)) (bd := bd + 31) (os := upd (upd (upd os (bd + 2) (some (.cells [yv]))) (bd + 23 + 1) (some (.cells (cA a)))) (bd + 30) (some (.loop (stK ⟨23, [8], A, B, .ready, none⟩ none) [(1, .ptr nA 0), (2, .ptr (bd + 2) 0)]))) (fun h => by
    rcases h with (h | h | h) | h
    · exact hFb 24 h
    · omega
    · omega
    · omega) (by simp (disch := omega) only [upd_ne, upd_eq]) ⟨hg, rfl⟩ ⟨⟨hI0, by simp (disch := omega) only [upd_ne]; exact oA, by simp (disch := omega) only [upd_ne, upd_eq]⟩, upd_eq⟩ hap9 (fun x hx => by
    obtain ⟨y, e, hy⟩ := lists_listed _ _ _ hx
    rw [List.nil_append] at e
    subst e
    exact ⟨hy, fun hp => hok _ (List.mem_filter.2 ⟨hx, hp⟩)⟩)
  cases (show some (_, _) = some (A, B) from hcode)
  refine awpd_rangeFuncM (mv := mv) (fun _ h => .inl h) (fun h => hFb 30 (hY.mvF _ h)) (bd := bd + 30) (tm := [(1, .ptr nA 0), (2, .ptr (bd + 2) 0)]) rfl (fun q hq => by simp (disch := omega) only [upd_ne]; exact hfree q (by omega)) (by simp only []; omega) rfl (by kernel_rfl) (fun i => leT_get (by simp (disch := omega) only [amL, sF, ↓reduceIte]) i) (tm_get (by simp (disch := omega) only [amL, sF, ↓reduceIte])) (staysT_get ⟨stays_ptr (fun h => fA (hY.mvF _ h)), stays_ptr (fun h => hFb 2 (hY.mvF _ h)), trivial⟩) hc (fun res os2 hR hcl2 => ?_)
  obtain ⟨rfl, hI2, hfr2⟩ := hR
  obtain ⟨e1, e2⟩ := allS_90 (a := a) (step := step) (listsP a.entries []) s
  have hfin : ∀ X, RetV Go.Proofs.Try.prog [] (fun res os' => res = .tup [] ∧ I (allS step s (truthsL a)).1 os' ∧ ∀ n, ¬ F n → os' n = os n) ⟨T [(1, .ptr nA 0), (2, .ptr (bd + 2) 0)], upd os2 (bd + 30) X⟩ := fun X => by
    have hI3 := hI2.1.1
    rw [e1] at hI3
    obtain ⟨g1, g2, g4⟩ := hY.fin0 hcl hcl2 hfree hI hI3 (fun q hq h1 => by
      by_cases e : q = nA
      · subst e; rw [hI2.1.2.1, oA]
      · rw [hfr2 q (fun h => by rcases h with (h | h | h) | h
                                · exact h1 h
                                · exact e h
                                · omega
                                · omega)]
        simp (disch := omega) only [upd_ne])
    exact retV_mk (res := .tup []) (dropFrom bd os2) rfl (fun n => by
      by_cases e : n = bd + 30
      · left; rw [e]; exact dropFrom_ge (by omega)
      · show dropFrom bd os2 n = none ∨ dropFrom bd os2 n = upd os2 (bd + 30) X n
        rw [upd_ne e]; exact dropFrom_sub bd os2 n) g1 (lives_isP _ rfl) ⟨rfl, g2, g4⟩
  rcases e2 with e2 | e2
  · refine ⟨_, hI2.2, by rw [e2]; simp [], ?_⟩
    rw [e2]
    exact hfin _
  · refine ⟨_, hI2.2, by rw [e2]; simp [], ?_⟩
    rw [e2]
    exact hfin _
end AM.Try
end
/- The program: whether an account has a truth. -/
section
namespace AM.Try
open Go AM AM.Duty
open Nat renaming reduceLT → sA, reduceAdd → sB, reduceMul → sC, reduceSub → sD, reduceLeDiff → sE, reduceEqDiff → sF, reduceBEq → sG
open Int renaming reduceAdd → sH, reduceSub → sI, reduceMul → sJ, reduceLT → sK, reduceLE → sL, reduceNeg → sM, reduceToNat → sN, reduceEq → sO
set_option maxHeartbeats 8000000
set_option maxRecDepth 100000
theorem clean1 {m n : Nat} (h : (AV.ptr n 0).clean m = false) : m = n := by
  simp only [AV.clean, bne_eq_false_iff_eq] at h; exact h.symm
theorem sub_congr {f g : Nat → Option AO} {n : Nat} {x : Option AO} (h : ∀ q, q ≠ n → f q = g q) : Sub (upd f n x) (upd g n x) := fun q => by
  right
  by_cases e : q = n
  · subst e; rw [upd_eq, upd_eq]
  · rw [upd_ne e, upd_ne e]; exact h q e
theorem upd_beside {f : Nat → Option AO} {n b : Nat} {x y : Option AO} {q : Nat} (h : q ≠ b) : upd f n x q = upd (upd f b y) n x q := by
  by_cases e : q = n
  · subst e; rw [upd_eq, upd_eq]
  · rw [upd_ne e, upd_ne e, upd_ne h]
theorem rounds81 {a : Acc} {nr bdL : Nat} (hrL : nr ≠ bdL) {A B : Code} (hcode : (Go.Proofs.Try.f81.body.bind rangeOf) = some (A, B)) :
    Rounds bdL ⟨7, [5, 6], A, B, .ready, none⟩ [(2, .ptr nr 0)] [70] [] (fun n => n = nr) (fun _ => False) (exA a) (fun _ => True) (fun _ _ => True) (fun (b : Bool) os => os nr = some (.cells [bl b])) (fun _ _ => (true, some .ret)) where
  mvF _ h := h.elim
  ready := rfl
  lenp _ := rfl
  psn p hp := by
    simp only [List.mem_cons, List.not_mem_nil, or_false] at hp
    rcases hp with rfl | rfl
    · exact (by decide : 5 < 7)
    · exact (by decide : 6 < 7)
  notF h := hrL h.symm
  tmF m hm := by
    refine clean1 (n := nr) ?_
    simpa [AO.clean, AV.clean.cleanL] using hm
  stable s os os' hI he := (he nr rfl).trans hI
  foot s os n hI hn := by subst hn; exact ⟨_, hI, fun m hm => by simp [AO.clean, AV.clean, AV.clean.cleanL] at hm⟩
  mono _ _ h := h
  next r s x ho hg h := trivial
  body r s x os bd na ho hg hI hap hF hne ha hl hcl hfree hb l := by
    have hfr0 : ∀ k, os (bd + k) = none := fun k => hfree _ (by omega)
    have br := lt_of_live hfree hI
    cases (show some (_, _) = some (A, B) from hcode)
    show AWP _ _ 7 _ ⟨T [(6, .agg ((pad (playS a x [] true).1).map i64)), (5, .own na x.length), (2, .ptr nr 0)], os⟩ _
    refine awp_skip ?_
    try simp (disch := omega) only [hl, amL]
    skip
    refine awp_block ?_
    refine awp_seq_k fun K1 hK1 => ?_
    refine awp_ops ?_
    simp (disch := omega) only [hI, upd_ne, amL, amT, sF, ↓reduceIte]
    refine hK1 _ ?_
    refine awp_ret ?_
    try simp (disch := omega) only [RoundQ_ret, amL]
    refine round_mk (upd (upd os nr (some (.cells [bl true]))) bdL (some (.loop (stK _ (some .ret)) [(2, .ptr nr 0)]))) (by simp (disch := omega) only [upd_ne, upd_eq]) (sub_congr fun q hq => upd_beside hq) ?_ ⟨rfl, ⟨(upd_ne hrL).trans upd_eq, upd_eq⟩, fun n hn => ?_⟩
    · refine closed_upd (closed_upd hcl (by rw [lives_cells_eq]; simp only [livesL_nil, livesL_cons, lives_p_eq, and_self])) fun m hm => ?_
      have : m = nr := clean1 (by simpa [AO.clean, AV.clean.cleanL] using hm)
      subst this
      rw [upd_ne hrL, upd_eq]; rfl
    · rw [upd_ne (fun e => hn (.inr e)), upd_ne (fun e => hn (.inl e))]
theorem c81 (a : Acc) (hf : faultS a = 0) : PCall Go.Proofs.Try.prog 81 [avA a] (bl (!(truthsL a).isEmpty)) := by
  refine pcalld_mk (v := [70]) (q := []) (N := 7) (rs := [.cell 2 4]) Go.Proofs.Try.func81 rfl rfl rfl rfl rfl ?_
  obtain ⟨A, B, hcode⟩ : ∃ A B, (Go.Proofs.Try.f81.body.bind rangeOf) = some (A, B) := ⟨_, _, rfl⟩
  have hRd := rounds81 (a := a) (nr := 2) (bdL := 9) (by decide) hcode
  refine awpd_seq_p fun K1 hK1 => ?_
  refine awp_ops ?_
  simp (disch := omega) only [amL, amT, sA, sF, ↓reduceIte]
  refine hK1 _ ?_
  refine awpd_seq_k fun K2 hK2 => ?_
  refine awpd_seq_p fun K3 hK3 => ?_
  refine awp_ops ?_
  simp (disch := omega) only [amL, amT, sA, sB, sF, ↓reduceIte]
  refine EV_intro2 [(2, .ptr 2 0)] (by decide) (c70 (bd := 7)) (T_get_none rfl) (by decide) (fun res os2 hR hcl2 hlv2 => ?_)
  obtain ⟨rfl, rfl⟩ := hR
  simp (disch := omega) only [amL, sB, sF, ↓reduceIte]
  refine hK3 _ ?_
  refine awpd_block ?_
  have hc := c90 (rr := 0) hRd.yields rfl hf (nA := 8) (s := (false, none)) (bd := 10) (os := O [(9, .loop (stK ⟨7, [5, 6], A, B, .ready, none⟩ none) [(2, .ptr 2 0)]), (8, .cells (cA a)), (2, .cells [bl false]), (1, .cells (cA a))]) (by decide) rfl ⟨trivial, rfl⟩ ⟨rfl, rfl⟩ Apart.none (fun _ _ => trivial)
  cases (show some (_, _) = some (A, B) from hcode)
  refine awpd_rangeFunc (bd := 9) (tm := [(2, .ptr 2 0)]) rfl (T_get_none rfl) (by decide) rfl (by kernel_rfl) (fun i => leT_get (by simp (disch := omega) only [amL, sF, ↓reduceIte]) i) (tm_get (by simp (disch := omega) only [amL, sF, ↓reduceIte])) hc (fun res os2 hR hcl2 => ?_)
  obtain ⟨rfl, hI2, hfr2⟩ := hR
  cases ht : truthsL a with
  | cons x l =>
    rw [ht] at hI2
    have hI3 : os2 2 = some (.cells [bl true]) := hI2.1
    refine ⟨_, hI2.2, by simp [allS], ?_⟩
    show blockQ 0 _ .ret _
    simp (disch := omega) only [blockQ_ret, thenQ_ret]
    simp (disch := omega) only [upd_ne, amL, amT, ↓reduceIte]
    simp only [hI3]
    simp (disch := omega) only [amL]
    try rfl
  | nil =>
  rw [ht] at hI2
  have hI3 : os2 2 = some (.cells [bl false]) := hI2.1
  refine ⟨_, hI2.2, by simp [allS], ?_⟩
  show blockQ 0 _ .normal _
  simp only [blockQ_normal, thenQ_normal]
  refine hK2 _ ?_
  refine awpd_seq_p fun K4 hK4 => ?_
  refine awp_ops ?_
  simp (disch := omega) only [hI3, upd_ne, amL, amT, ↓reduceIte]
  refine hK4 _ ?_
  refine awpd_of_awp ?_
  refine awp_ret ?_
  try simp (disch := omega) only [amL, amT, ↓reduceIte]
  first | (rw [ht]; rfl) | rfl
end AM.Try
end
/- The abstract machine, part 42: an object gets another name. -/
section
namespace AM
open Go
def rn (c m n : Nat) : Nat := if n = c then m else n
def AV.ren (c m : Nat) : AV → AV
  | .p x => .p x
  | .ptr n off => .ptr (rn c m n) off
  | .eptr n k i off => .eptr (rn c m n) k i off
  | .own n len => .own (rn c m n) len
  | .csl n off k len => .csl (rn c m n) off k len
  | .fn f fs cs => .fn f (renL c m fs) (renL c m cs)
  | .yld n => .yld (rn c m n)
  | .mp n => .mp (rn c m n)
  | .agg cs => .agg (renL c m cs)
  | .tup cs => .tup (renL c m cs)
  | .undef => .undef
  where renL (c m : Nat) : List AV → List AV
  | [] => []
  | x :: r => x.ren c m :: renL c m r
theorem renL_map (c m : Nat) (l : List AV) : AV.ren.renL c m l = l.map (AV.ren c m) := by
  induction l with
  | nil => rfl
  | cons x l ih => simp only [AV.ren.renL, List.map_cons, ih]
def AO.ren (c m : Nat) : AO → AO
  | .cells cs => .cells (cs.map (AV.ren c m))
  | .arr k es => .arr k es
  | .obj X => .obj X
  | .loop k tm => .loop k (tm.map fun p => (p.1, p.2.ren c m))
def St.ren (c m : Nat) (s : St) : St := ⟨fun i => (s.t i).ren c m, fun n => if n = m then (s.o c).map (AO.ren c m) else if n = c then none else (s.o n).map (AO.ren c m)⟩
section
variable {θ : Nat → Loc} {M : Nat → Prop} {w : World} {c m : Nat}
theorem rn_loc {n : Nat} (h : n ≠ m) : updL θ m (θ c) (rn c m n) = θ n := by
  unfold rn
  split
  · rename_i e; subst e; simp
  · exact updL_other h
theorem ARel.ren {x : AV} {v : Value} (h : ARel θ M w x v) : x.clean m = true → ARel (updL θ m (θ c)) M w (x.ren c m) v := by
  have hl : ∀ {l : List AV} {i : Nat} {y : AV}, (AV.ren.renL c m l)[i]? = some y → ∃ z, l[i]? = some z ∧ y = z.ren c m := fun h => by
    rw [renL_map, List.getElem?_map, Option.map_eq_some_iff] at h
    obtain ⟨z, h1, h2⟩ := h
    exact ⟨z, h1, h2.symm⟩
  induction h with
  | p x v h => exact fun _ => .p x v h
  | ptr n off => intro hc; have := ARel.ptr (θ := updL θ m (θ c)) (M := M) (w := w) (rn c m n) off; rwa [rn_loc (by simpa [AV.clean] using hc)] at this
  | eptr n k i off => intro hc; have := ARel.eptr (θ := updL θ m (θ c)) (M := M) (w := w) (rn c m n) k i off; rwa [rn_loc (by simpa [AV.clean] using hc)] at this
  | own n len h0 h =>
    intro hc
    have e : updL θ m (θ c) (rn c m n) = θ n := rn_loc (by simpa [AV.clean] using hc)
    have := ARel.own (θ := updL θ m (θ c)) (M := M) (w := w) (rn c m n) len (by rw [e]; exact h0) (by rw [e]; exact h)
    rwa [e] at this
  | ownNil n h0 =>
    intro hc
    have e : updL θ m (θ c) (rn c m n) = θ n := rn_loc (by simpa [AV.clean] using hc)
    exact .ownNil _ (by rw [e]; exact h0)
  | csl n off k len cap h => intro hc; have := ARel.csl (θ := updL θ m (θ c)) (M := M) (w := w) (rn c m n) off k len cap h; rwa [rn_loc (by simpa [AV.clean] using hc)] at this
  | fn f fs cs vf vc hf hcs _ _ ih1 ih2 =>
    intro h
    simp only [AV.clean, Bool.and_eq_true, cleanL_iff] at h
    refine .fn f _ _ vf vc (by rw [renL_map, List.length_map]; exact hf) (by rw [renL_map, List.length_map]; exact hcs) (fun i x hx => ?_) (fun i x hx => ?_)
    · obtain ⟨z, h1, rfl⟩ := hl hx
      exact ih1 i z h1 (h.1 i z h1)
    · obtain ⟨z, h1, rfl⟩ := hl hx
      exact ih2 i z h1 (h.2 i z h1)
  | yld n => intro hc; have := ARel.yld (θ := updL θ m (θ c)) (M := M) (w := w) (rn c m n); rwa [rn_loc (by simpa [AV.clean] using hc)] at this
  | mp n => intro hc; have := ARel.mp (θ := updL θ m (θ c)) (M := M) (w := w) (rn c m n); rwa [rn_loc (by simpa [AV.clean] using hc)] at this
  | agg cs vs hs ho _ ih =>
    intro h
    simp only [AV.clean, cleanL_iff] at h
    refine .agg _ vs (by rw [renL_map, List.length_map]; exact hs) (fun i hi => ho i (by rwa [renL_map, List.length_map] at hi)) (fun i x hx => ?_)
    obtain ⟨z, h1, rfl⟩ := hl hx
    exact ih i z h1 (h i z h1)
  | tup cs vs hs _ ih =>
    intro h
    simp only [AV.clean, cleanL_iff] at h
    refine .tup _ vs (by rw [renL_map, List.length_map]; exact hs) (fun i x hx => ?_)
    obtain ⟨z, h1, rfl⟩ := hl hx
    exact ih i z h1 (h i z h1)
  | undef v => exact fun _ => .undef v
theorem ren_clean {x : AV} (n : Nat) (hx : x.clean m = true) : (x.ren c m).clean n = false → (n = m ∧ x.clean c = false) ∨ (n ≠ c ∧ x.clean n = false) := by
  have key : ∀ k, k ≠ m → (rn c m k != n) = false → (n = m ∧ (k != c) = false) ∨ (n ≠ c ∧ (k != n) = false) := fun k hk h => by
    simp only [bne_eq_false_iff_eq] at h ⊢
    unfold rn at h
    split at h
    · rename_i e; exact .inl ⟨h.symm, e⟩
    · rename_i e; subst h; exact .inr ⟨e, rfl⟩
  have hll : ∀ (l : List AV), (∀ x ∈ l, x.clean m = true → (x.ren c m).clean n = false → (n = m ∧ x.clean c = false) ∨ (n ≠ c ∧ x.clean n = false)) → AV.clean.cleanL m l = true → AV.clean.cleanL n (AV.ren.renL c m l) = false → (n = m ∧ AV.clean.cleanL c l = false) ∨ (n ≠ c ∧ AV.clean.cleanL n l = false) := by
    intro l
    induction l with
    | nil => intro _ _ h; simp [AV.ren.renL, AV.clean.cleanL] at h
    | cons y l ih =>
      intro h1 h2 h3
      simp only [AV.clean.cleanL, Bool.and_eq_true] at h2
      simp only [AV.ren.renL, AV.clean.cleanL, Bool.and_eq_false_iff] at h3 ⊢
      rcases h3 with h3 | h3
      · rcases h1 y (by simp) h2.1 h3 with h | h
        · exact .inl ⟨h.1, .inl h.2⟩
        · exact .inr ⟨h.1, .inl h.2⟩
      · rcases ih (fun x hx => h1 x (by simp [hx])) h2.2 h3 with h | h
        · exact .inl ⟨h.1, .inr h.2⟩
        · exact .inr ⟨h.1, .inr h.2⟩
  match x, hx with
  | .p _, _ => intro h; simp [AV.ren, AV.clean] at h
  | .ptr k _, hx => intro h; simp only [AV.ren, AV.clean] at *; exact key k (by simpa using hx) h
  | .eptr k _ _ _, hx => intro h; simp only [AV.ren, AV.clean] at *; exact key k (by simpa using hx) h
  | .own k _, hx => intro h; simp only [AV.ren, AV.clean] at *; exact key k (by simpa using hx) h
  | .csl k _ _ _, hx => intro h; simp only [AV.ren, AV.clean] at *; exact key k (by simpa using hx) h
  | .yld k, hx => intro h; simp only [AV.ren, AV.clean] at *; exact key k (by simpa using hx) h
  | .mp k, hx => intro h; simp only [AV.ren, AV.clean] at *; exact key k (by simpa using hx) h
  | .fn f fs cs, hx =>
    intro h
    simp only [AV.ren, AV.clean, Bool.and_eq_true, Bool.and_eq_false_iff] at *
    rcases h with h | h
    · rcases hll fs (fun x _ hx => ren_clean n hx) hx.1 h with h | h
      · exact .inl ⟨h.1, .inl h.2⟩
      · exact .inr ⟨h.1, .inl h.2⟩
    · rcases hll cs (fun x _ hx => ren_clean n hx) hx.2 h with h | h
      · exact .inl ⟨h.1, .inr h.2⟩
      · exact .inr ⟨h.1, .inr h.2⟩
  | .agg cs, hx => intro h; simp only [AV.ren, AV.clean] at *; exact hll cs (fun x _ hx => ren_clean n hx) hx h
  | .tup cs, hx => intro h; simp only [AV.ren, AV.clean] at *; exact hll cs (fun x _ hx => ren_clean n hx) hx h
  | .undef, _ => intro h; simp [AV.ren, AV.clean] at h
  termination_by sizeOf x
  decreasing_by all_goals (simp_wf; first | (have := List.sizeOf_lt_of_mem ‹_›; omega) | omega)
end
section
variable {P : Program} {r : RB} {N B : Nat} {S : Nat → Prop} {θ : Nat → Loc} {M : Nat → Prop} {w : World} {st : St} {a : Act} {Q : AEx → St → Prop} {c m : Nat}
theorem clean_of_none {x : AV} {os : Nat → Option AO} (hx : x.lives os) (hm : os m = none) : x.clean m = true := by
  cases h : x.clean m with
  | true => rfl
  | false => have := hx m h; rw [hm] at this; cases this
theorem cleanO_of_none {x : AO} {os : Nat → Option AO} (hx : x.lives os) (hm : os m = none) : x.clean m = true := by
  cases h : x.clean m with
  | true => rfl
  | false => have := hx m h; rw [hm] at this; cases this
theorem ren_lives {x : AV} (hx : x.lives st.o) (hm : st.o m = none) (_ : c ≠ m) : (x.ren c m).lives (st.ren c m).o := by
  intro n hn
  simp only [St.ren]
  rcases ren_clean n (clean_of_none hx hm) hn with ⟨e, h⟩ | ⟨e, h⟩
  · rw [if_pos e, Option.isSome_map]; exact hx c h
  · have h1 := hx n h
    have h2 : n ≠ m := fun e => by rw [e, hm] at h1; cases h1
    rw [if_neg h2, if_neg e, Option.isSome_map]; exact h1
theorem ORel.ren {l : Loc} {o : AO} (h : ORel θ M w l o) (hc : o.clean m = true) : ORel (updL θ m (θ c)) M w l (o.ren c m) := by
  cases o with
  | arr k es => exact h
  | obj X => exact h
  | cells cs =>
    obtain ⟨h0, cur, e, hb, hs, ho, hx⟩ := h
    refine ⟨h0, cur, e, hb, by simpa using hs, fun i hi => ho i (by simpa using hi), fun i x hi => ?_⟩
    rw [List.getElem?_map, Option.map_eq_some_iff] at hi
    obtain ⟨y, hy, rfl⟩ := hi
    exact (hx i y hy).ren ((cleanL_iff m _).1 hc i y hy)
  | loop k tm =>
    obtain ⟨h0, fn, tmps, D, hb, hn, hx⟩ := h
    refine ⟨h0, fn, tmps, D, hb, hn, fun i p hi => ?_⟩
    rw [List.getElem?_map, Option.map_eq_some_iff] at hi
    obtain ⟨q, hq, rfl⟩ := hi
    exact (hx i q hq).ren ((cleanL_iff m _).1 hc i q.2 (by simp [hq]))
theorem renO_lives {x : AO} (hx : x.lives st.o) (hm : st.o m = none) (hcm : c ≠ m) : (x.ren c m).lives (st.ren c m).o := by
  cases x with
  | arr k es => exact AO.lives_arr _ _ _
  | obj X => exact AO.lives_obj _ _
  | cells cs =>
    rw [AO.lives_cells] at hx
    rw [AO.ren, AO.lives_cells]
    intro i y hi
    rw [List.getElem?_map, Option.map_eq_some_iff] at hi
    obtain ⟨z, hz, rfl⟩ := hi
    exact ren_lives (hx i z hz) hm hcm
  | loop k tm =>
    rw [AO.lives_loop] at hx
    rw [AO.ren, AO.lives_loop]
    intro i p hi
    rw [List.getElem?_map, Option.map_eq_some_iff] at hi
    obtain ⟨q, hq, rfl⟩ := hi
    exact ren_lives (hx i q hq) hm hcm
theorem SRel.ren (h : SRel N B S θ M w st a) (hm : st.o m = none) (hcm : c ≠ m) : SRel N B S (updL θ m (θ c)) M w (st.ren c m) a := by
  have hcase : ∀ n o, (st.ren c m).o n = some o → ∃ n' o', st.o n' = some o' ∧ o = o'.ren c m ∧ updL θ m (θ c) n = θ n' ∧ n = rn c m n' ∧ n' ≠ m := by
    intro n o hn
    simp only [St.ren] at hn
    split at hn
    · rename_i e
      rw [Option.map_eq_some_iff] at hn
      obtain ⟨o', h1, h2⟩ := hn
      exact ⟨c, o', h1, h2.symm, by rw [e]; simp, by rw [e]; simp [rn], hcm⟩
    · rename_i e
      split at hn
      · cases hn
      · rename_i e2
        rw [Option.map_eq_some_iff] at hn
        obtain ⟨o', h1, h2⟩ := hn
        exact ⟨n, o', h1, h2.symm, updL_other e, by simp [rn, e2], e⟩
  refine ⟨h.size, fun i => (h.tm i).ren (clean_of_none (h.cl.1 i) hm), fun n o hn => ?_, fun n o hn hnil => ?_, fun n k hn hk h1 h2 hb => ?_, h.base, h.mlt, fun i => ren_lives (h.cl.1 i) hm hcm, fun n o hn => ?_⟩
  · obtain ⟨n', o', h1, rfl, e, _, _⟩ := hcase n o hn
    rw [e]
    exact (h.ob n' o' h1).ren (cleanO_of_none (h.cl.2 n' o' h1) hm)
  · obtain ⟨n', o', h1, rfl, e, _, _⟩ := hcase n o hn
    rw [e] at hnil ⊢
    exact h.lv n' o' h1 hnil
  · obtain ⟨o1, ho1⟩ := Option.isSome_iff_exists.1 hn
    obtain ⟨o2, ho2⟩ := Option.isSome_iff_exists.1 hk
    obtain ⟨n', o1', g1, _, e1, r1, _⟩ := hcase n o1 ho1
    obtain ⟨k', o2', g2, _, e2, r2, _⟩ := hcase k o2 ho2
    rw [e1] at h1 hb
    rw [e2] at h2 hb
    have := h.inj n' k' (by rw [g1]; rfl) (by rw [g2]; rfl) h1 h2 hb
    rw [r1, r2, this]
  · obtain ⟨n', o', h1, rfl, _, _, _⟩ := hcase n o hn
    exact renO_lives (h.cl.2 n' o' h1) hm hcm
theorem AWP.ren {cd : Code} (h : AWP P r N cd st (fun e s => Q e s ∨ ∃ c m, s.o m = none ∧ c ≠ m ∧ (r.mv m ∨ r.b ≤ m) ∧ Q e (s.ren c m))) : AWP P r N cd st Q := by
  intro B S θ M w a hs
  refine wpIn_mono (h B S θ M w a hs) ?_
  rintro e a' w' ⟨ae, st', rfl, hq, ⟨θ', M', hs', hk, ht, hm⟩, hd⟩
  rcases hq with hq | ⟨c, m, h1, h2, h3, hq⟩
  · exact ⟨ae, st', rfl, hq, ⟨θ', M', hs', hk, ht, hm⟩, hd⟩
  · refine ⟨ae, _, rfl, hq, ⟨_, M', hs'.ren h1 h2, hk, fun n hn hv => ?_, hm⟩, hd⟩
    rw [updL_other (fun e => by subst e; rcases h3 with h3 | h3
                                · exact hv h3
                                · omega)]
    exact ht n hn hv
structure St.wk (s1 s : St) : Prop where
  t : ∀ i, s1.t i = .undef ∨ s1.t i = s.t i
  o : ∀ n, s1.o n = none ∨ s1.o n = s.o n ∨ ∃ cs cs' : List AV, s.o n = some (.cells cs) ∧ s1.o n = some (.cells cs') ∧ cs'.length = cs.length ∧ ∀ (i : Nat) (x : AV), cs'[i]? = some x → x = .undef ∨ cs[i]? = some x
  cl : s1.closed
theorem SRel.wk {s1 : St} (h : SRel N B S θ M w st a) (hw : s1.wk st) : SRel N B S θ M w s1 a := by
  have hob : ∀ n o, s1.o n = some o → ∃ o', st.o n = some o' ∧ (ORel θ M w (θ n) o' → ORel θ M w (θ n) o) := fun n o hn => by
    rcases hw.o n with e | e | ⟨cs, cs', e1, e2, e3, e4⟩
    · rw [e] at hn; cases hn
    · rw [e] at hn; exact ⟨o, hn, id⟩
    · rw [e2] at hn; cases hn
      refine ⟨_, e1, fun ⟨h0, cur, e, hb, hs, ho, hx⟩ => ⟨h0, cur, e, hb, by rw [hs, e3], fun i hi => ho i (by rw [← e3]; exact hi), fun i x hi => ?_⟩⟩
      rcases e4 i x hi with rfl | h
      · exact .undef _
      · exact hx i x h
  refine ⟨h.size, fun i => ?_, fun n o hn => ?_, fun n o hn hnil => ?_, fun n m hn hm => ?_, h.base, h.mlt, hw.cl⟩
  · rcases hw.t i with e | e
    · rw [e]; exact .undef _
    · rw [e]; exact h.tm i
  · obtain ⟨o', h1, h2⟩ := hob n o hn
    exact h2 (h.ob n o' h1)
  · obtain ⟨o', h1, _⟩ := hob n o hn
    exact h.lv n o' h1 hnil
  · obtain ⟨o1, ho1⟩ := Option.isSome_iff_exists.1 hn
    obtain ⟨o2, ho2⟩ := Option.isSome_iff_exists.1 hm
    obtain ⟨o1', g1, _⟩ := hob n o1 ho1
    obtain ⟨o2', g2, _⟩ := hob m o2 ho2
    exact h.inj n m (by rw [g1]; rfl) (by rw [g2]; rfl)
theorem AWP.wk {cd : Code} (h : AWP P r N cd st (fun e s => ∃ s1 : St, s1.wk s ∧ Q e s1)) : AWP P r N cd st Q := by
  intro B S θ M w a hs
  refine wpIn_mono (h B S θ M w a hs) ?_
  rintro e a' w' ⟨ae, st', rfl, ⟨s1, h1, hq⟩, ⟨θ', M', hs', hk, ht, hm⟩, hd⟩
  exact ⟨ae, s1, rfl, hq, ⟨θ', M', hs'.wk h1, hk, ht, hm⟩, hd⟩
theorem AWP.from_wk {cd : Code} {s1 : St} (hw : s1.wk st) (h : AWP P r N cd s1 Q) : AWP P r N cd st Q := fun B S θ M w a hs => h B S θ M w a (hs.wk hw)
end
end AM
end
/- The program: a list of lists, turned round. -/
section
namespace AM.Try
open Go AM AM.Duty
open Nat renaming reduceLT → sA, reduceAdd → sB, reduceMul → sC, reduceSub → sD, reduceLeDiff → sE, reduceEqDiff → sF, reduceBEq → sG
open Int renaming reduceAdd → sH, reduceSub → sI, reduceMul → sJ, reduceLT → sK, reduceLE → sL, reduceNeg → sM, reduceToNat → sN, reduceEq → sO
set_option maxHeartbeats 8000000
set_option maxRecDepth 100000
abbrev sg (p : PV) : List PV := [p]
abbrev pv0 : PV := .sl []
theorem sg_getD {l : List PV} {k : Nat} (h : k < l.length) : (l.map sg).getD k [] = [l.getD k pv0] := getD_map _ _ _ h
theorem sg_set {l : List PV} {i : Nat} {v : PV} : (l.map sg).set i [v] = (l.set i v).map sg := List.map_set.symm
def SwK (es l : List PV) (k : Nat) : Prop := l.length = es.length ∧ ∀ q, q < es.length → l.getD q pv0 = if q < k ∨ es.length - 1 - q < k then es.getD (es.length - 1 - q) pv0 else es.getD q pv0
theorem sw_0 {es : List PV} : SwK es es 0 := ⟨rfl, fun q hq => by simp⟩
theorem sw_step {es l : List PV} {k : Nat} (h : SwK es l k) (hk : k < es.length - 1 - k) : SwK es ((l.set k (l.getD (es.length - 1 - k) pv0)).set (es.length - 1 - k) (l.getD k pv0)) (k + 1) := by
  obtain ⟨h1, h2⟩ := h
  refine ⟨by simp [h1], fun q hq => ?_⟩
  have hj : es.length - 1 - k < es.length := by omega
  have gs : ∀ (m : List PV) (i q : Nat) (v : PV), q < m.length → (m.set i v).getD q pv0 = if q = i then v else m.getD q pv0 := fun m i q v hq => by
    simp only [List.getD, List.getElem?_set]
    by_cases e : i = q
    · subst e; simp [hq]
    · simp [e, Ne.symm e]
  rw [gs _ _ _ _ (by simp; omega), gs _ _ _ _ (by omega)]
  by_cases e1 : q = es.length - 1 - k
  · rw [if_pos e1, if_pos (by omega), h2 k (by omega), if_neg (by omega), e1]
    congr 1; omega
  · rw [if_neg e1]
    by_cases e2 : q = k
    · rw [if_pos e2, if_pos (by omega), h2 _ hj, if_neg (by omega), e2]
    · rw [if_neg e2, h2 q hq]
      by_cases e3 : q < k ∨ es.length - 1 - q < k
      · rw [if_pos e3, if_pos (by omega)]
      · rw [if_neg e3, if_neg (by omega)]
theorem sw_end {es l : List PV} {k : Nat} (h : SwK es l k) (hk : es.length ≤ 2 * k + 1) : l = es.reverse := by
  obtain ⟨h1, h2⟩ := h
  refine List.ext_getElem (by simp [h1]) fun i hi1 hi2 => ?_
  have hi : i < es.length := by omega
  have := h2 i hi
  simp only [List.getD, List.getElem?_eq_getElem hi1, Option.getD_some] at this
  rw [this, List.getElem_reverse]
  have hj : es.length - 1 - i < es.length := by omega
  split
  · simp [List.getElem?_eq_getElem hj]
  · have e : es.length - 1 - i = i := by omega
    simp only [e, List.getElem?_eq_getElem hi, Option.getD_some]
theorem upd_self {os : Nat → Option AO} {n : Nat} {x : Option AO} (h : os n = x) : upd os n x = os := funext fun q => by
  by_cases e : q = n
  · subst e; rw [upd_eq, h]
  · rw [upd_ne e]
theorem thenQ_exit {K : St → Prop} {Q : AEx → St → Prop} {i : Nat} {s : St} : thenQ K Q (.exit i) s = Q (.exit i) s := rfl
theorem blockQ_hit {Q : AEx → St → Prop} {i : Nat} {s : St} : blockQ i Q (.exit i) s = Q .normal s := if_pos rfl
theorem c95 {ps : List PV} {nA : Nat} {os : Nat → Option AO} {bd : Nat} (hl : ps.length < 1000000) (oA : os nA = some (.arr 1 (ps.map sg))) :
    VCall Go.Proofs.Try.prog bd (.fn (.func 95) [] []) [.own nA ps.length] os fun res os' => res = .tup [] ∧ os' = upd os nA (some (.arr 1 (ps.reverse.map sg))) := by
  refine vcall_mk (v := []) (q := []) (N := 28) (rs := []) Go.Proofs.Try.func95 rfl (by kernel_rfl) rfl rfl (fun hcl hfree => ?_)
  have hfr0 : ∀ k, os (bd + k) = none := fun k => hfree _ (by omega)
  have bA := lt_of_live hfree oA
  refine awp_seq_k fun K1 hK1 => ?_
  refine awp_ops ?_
  simp (disch := omega) only [amL, amT, sA, sF, ↓reduceIte]
  refine hK1 _ ?_
  refine awp_block ?_
  skip
  refine awp_loop_k (α := Nat × List PV) (fun x => ⟨T [(0, .own nA ps.length), (2, i64 (x.1 : Int)), (3, i64 ((ps.length : Int) - 1 - x.1))], upd os nA (some (.arr 1 (x.2.map sg)))⟩) (fun x => ps.length - x.1) (fun x => x.1 ≤ ps.length ∧ SwK ps x.2 x.1) (0, ps) ?_ ?_ (fun x hx2 K2 hK2 => ?_)
  · exact ⟨by simp, sw_0⟩
  · refine le_os ?_ ?_ ?_ ?_ <;> (try simp (disch := omega) only [upd_eq, amL, sF, ↓reduceIte, reduceCtorEq]); all_goals first | (rw [upd_self oA]; exact Sub.refl _) | exact closed_upd hcl (by rw [lives_arr_eq]; trivial) | (congr 3; omega) | (omega)
  obtain ⟨k, l⟩ := x; dsimp only at hx2 ⊢; obtain ⟨hk, hsw⟩ := hx2
  refine awp_seq_k fun K3 hK3 => ?_
  refine awp_seq_k fun K4 hK4 => ?_
  refine awp_ops ?_
  simp (disch := omega) only [amL, amT, sA, sF, ↓reduceIte, reduceCtorEq]
  refine hK4 _ ?_
  refine awp_cond rfl (fun h => ?_) (fun h => ?_)
  ·first
   | exact Bool.noConfusion h
   |skip
    try simp only [decide_eq_true_eq] at h
    refine awp_skip ?_
    refine hK3 _ ?_
    refine awp_seq_k fun K5 hK5 => ?_
    refine awp_block ?_
    refine awp_any2 (by kernel_rfl) (by kernel_rfl) ?_
    have hll := hsw.1
    have hg1 := sg_getD (l := l) (k := k) (by omega)
    have hg2 := sg_getD (l := l) (k := ps.length - 1 - k) (by omega)
    have hj : (ps.length : Int) - 1 - k = ((ps.length - 1 - k : Nat) : Int) := by omega
    simp (disch := omega) only [hj, hg1, hg2, hll, sg_set, List.length_set, upd_eq, amL, amT, sA, sF, ↓reduceIte, reduceCtorEq]
    refine hK5 _ ?_
    refine awp_ops ?_
    simp (disch := omega) only [amL, amT, sA, sF, ↓reduceIte, reduceCtorEq]
    refine hK2 (k + 1, (l.set k (l.getD (ps.length - 1 - k) pv0)).set (ps.length - 1 - k) (l.getD k pv0)) _ ?_ ?_ (le_os ?_ ?_ ?_ ?_)
    all_goals (try simp (disch := omega) only [upd_eq, amL, sF, ↓reduceIte, reduceCtorEq])
    all_goals first | omega | exact ⟨by omega, sw_step hsw (by omega)⟩ | (rw [upd_upd, upd_upd, sg_getD (by rw [List.length_set]; omega), List.set_cons_zero, sg_set]; exact Sub.refl _) | exact closed_upd hcl (by rw [lives_arr_eq]; trivial) | (refine ⟨?_, ?_⟩ <;> (congr 3; omega)) | (congr 3; omega) | (omega)
  ·first
   | exact Bool.noConfusion h
   |skip
    try simp only [decide_eq_false_iff_not] at h
    refine awp_exit ?_
    try simp (disch := omega) only [oA, hfr0, upd_ne, upd_eq, amL, amT, sA, sB, sC, sD, sE, sF, sG, sH, sI, sJ, sK, sL, sM, sN, sO, ↓reduceIte, reduceCtorEq]
    rw [thenQ_exit, thenQ_exit, blockQ_hit, RetS_normal]
    rw [sw_end hsw (by omega)]
    exact retV_mk (res := .tup []) _ rfl (Sub.refl _) (closed_upd hcl (by rw [lives_arr_eq]; trivial)) (lives_isP _ rfl) ⟨rfl, rfl⟩
end AM.Try
end
/- Go's slices.IndexFunc, slices.ContainsFunc and the program's all, over a part of an array. -/
section
namespace AM.Try
open Go AM AM.Duty
open Nat renaming reduceLT → sA, reduceAdd → sB, reduceMul → sC, reduceSub → sD, reduceLeDiff → sE, reduceEqDiff → sF, reduceBEq → sG
open Int renaming reduceAdd → sH, reduceSub → sI, reduceMul → sJ, reduceLT → sK, reduceLE → sL, reduceNeg → sM, reduceToNat → sN, reduceEq → sO
set_option maxHeartbeats 8000000
theorem drop_i64 {ds : List Int} {len k : Nat} (h : k < len) (hl : len ≤ ds.length) : (ds.map i64).drop k = i64 ((ds.take len).getD k 0) :: (ds.map i64).drop (k + 1) := by
  rw [List.drop_eq_getElem_cons (by simp; omega)]
  simp [List.getD, h, show k < ds.length by omega]
theorem c115s {σ : Type} {fv : AV} {F : Nat → Prop} {ds : List Int} {len : Nat} {I : σ → (Nat → Option AO) → Prop} {step : σ → Int → σ × Bool} (hl : ds.length < 1000000) (hlen : len ≤ ds.length) (hT : Tests fv F i64 (ds.take len) I step) {m : Nat} (fm : ¬ F m) {s : σ} {os : Nat → Option AO} {bd : Nat} (hI : I s os) (om : os m = some (.cells (ds.map i64))) :
    VCall Go.Proofs.Try.prog bd (.fn (.func 115) [] []) [.csl m 0 1 len, fv] os fun res os' => res = i64 (scan step s (ds.take len) 0).2 ∧ I (scan step s (ds.take len) 0).1 os' ∧ ∀ n, ¬ F n → os' n = os n := by
  refine vcall_mk (v := []) (q := []) (N := 19) (rs := [.tmp 4]) Go.Proofs.Try.func115 rfl (by kernel_rfl) rfl rfl (fun hcl hfree => ?_)
  have hfreeI : ∀ (s1 : σ) os1, I s1 os1 → (∀ n, ¬ F n → os1 n = os n) → ∀ n, bd ≤ n → os1 n = none := fun s1 os1 h1 h2 n hn => by
    by_cases hFn : F n
    · obtain ⟨o, h3, _⟩ := hT.foot s os n hI hFn
      have := lt_of_live hfree h3; omega
    · rw [h2 n hFn]; exact hfree n hn
  have hll : (ds.take len).length = len := by rw [List.length_take]; omega
  refine awp_seq_k fun K1 hK1 => ?_
  refine awp_ops ?_
  simp (disch := omega) only [amL, sA, sB]
  refine hK1 _ ?_
  refine awp_seq_k fun K2 hK2 => ?_
  refine awp_seq_k fun K3 hK3 => ?_
  refine awp_ops ?_
  simp (disch := omega) only [amL, amT, sA, ↓reduceIte, reduceCtorEq]
  refine hK3 _ ?_
  refine awp_block ?_
  skip
  refine awp_loop_k (α := Nat × σ × (Nat → Option AO)) (fun x => ⟨T [(0, .csl m 0 1 len), (1, fv), (8, i64 x.1), (7, i64 len)], x.2.2⟩) (fun x => len - x.1) (fun x => x.1 ≤ len ∧ I x.2.1 x.2.2 ∧ (Hp x.2.2).closed ∧ (∀ n, ¬ F n → x.2.2 n = os n) ∧ scan step x.2.1 ((ds.take len).drop x.1) x.1 = scan step s (ds.take len) 0) (0, s, os) ?_ ?_ (fun x hx4 K4 hK4 => ?_)
  · exact ⟨by simp, hI, hcl, fun _ _ => rfl, by simp⟩
  · refine le_os ?_ ?_ ?_ ?_ <;> (try simp (disch := omega) only [amL, sF, ↓reduceIte, reduceCtorEq]); all_goals first | exact hcl | exact Sub.refl _ | exact hT.live _ _ hI | (rw [om]; rfl) | exact ⟨by rw [om]; rfl, hT.live _ _ hI⟩
  obtain ⟨k, s1, os1⟩ := x; dsimp only at hx4 ⊢; obtain ⟨hk, hI1, hcl1, hfr1, hsc⟩ := hx4; have om1 := (hfr1 m fm).trans om
  refine awp_seq_k fun K5 hK5 => ?_
  refine awp_ops ?_
  simp (disch := omega) only [amL, amT, sA, sF, ↓reduceIte, reduceCtorEq]
  refine hK5 _ ?_
  refine awp_seq_k fun K6 hK6 => ?_
  refine awp_cond rfl (fun h => ?_) (fun h => ?_)
  ·first
   | exact Bool.noConfusion h
   |skip
    try simp only [decide_eq_true_eq] at h
    refine awp_skip ?_
    refine hK6 _ ?_
    refine awp_seq_k fun K7 hK7 => ?_
    refine awp_block ?_
    refine awp_seq_k fun K8 hK8 => ?_
    refine awp_ops ?_
    simp (disch := omega) only [amL, sA, sF, ↓reduceIte, reduceCtorEq]
    refine hK8 _ ?_
    refine awp_seq_k fun K9 hK9 => ?_
    refine awp_ops ?_
    have hdk := drop_i64 (ds := ds) (len := len) (k := k) (by omega) hlen
    simp (disch := omega) only [hdk, om1, amL, amT, sA, sF, ↓reduceIte, reduceCtorEq]
    refine EV_intro2 [(0, .csl m 0 1 len), (1, fv), (5, i64 k), (8, i64 k), (7, i64 len)] (by decide) (hT.call s1 ((ds.take len).getD k 0) os1 bd (getD_mem 0 (by omega)) hI1 hcl1) (hfreeI _ _ hI1 hfr1) (Nat.le_refl _) (fun res os2 hR hcl2 hlv2 => ?_)
    obtain ⟨rfl, hI2, hfr2⟩ := hR
    have hv2 := hT.live _ _ hI2
    have om2 := (hfr2 m fm).trans om1
    simp (disch := omega) only [amL, sF, ↓reduceIte, reduceCtorEq]
    refine ⟨⟨by rw [om2]; rfl, hv2⟩, ?_⟩
    refine hK9 _ ?_
    refine awp_cond rfl (fun h => ?_) (fun h => ?_)
    ·first
     | exact Bool.noConfusion h
     |skip
      try simp only [Bool.not_eq_true', decide_eq_true_eq, decide_eq_false_iff_not, Bool.and_eq_true, Bool.not_eq_false', Bool.not_not, decide_not, Bool.not_true, Bool.not_false] at h
      refine awp_seq_k fun K10 hK10 => ?_
      refine awp_ops ?_
      simp (disch := omega) only [amL, sA, sF, ↓reduceIte, reduceCtorEq]
      refine hK10 _ ?_
      refine awp_ret ?_
      try simp (disch := omega) only [amL]
      first | (refine retV_mk (res := i64 _) os1 (by simp (disch := omega) only [amL, ↓reduceIte]; try rfl) (Sub.refl _) hcl1 (AV.lives_p _ _) ?_ ; rw [scan_none (by omega) hsc]; exact ⟨rfl, hI1, hfr1⟩) | (refine retV_mk (res := i64 _) os2 (by simp (disch := omega) only [amL, ↓reduceIte]; try rfl) (Sub.refl _) hcl2 (AV.lives_p _ _) ?_ ; rw [scan_found 0 (by omega) h hsc]; exact ⟨rfl, hI2, fun n hn => (hfr2 n hn).trans (hfr1 n hn)⟩)
    ·first
     | exact Bool.noConfusion h
     |skip
      try simp only [Bool.not_eq_true', decide_eq_true_eq, decide_eq_false_iff_not, Bool.and_eq_true, Bool.not_eq_false', Bool.not_not, decide_not, Bool.not_true, Bool.not_false] at h
      refine awp_skip ?_
      refine hK7 _ ?_
      refine awp_ops ?_
      simp (disch := omega) only [amL, amT, sA, sF, ↓reduceIte, reduceCtorEq]
      refine hK4 (k+1, (step s1 ((ds.take len).getD k 0)).1, os2) _ ?_ ?_ (le_os ?_ ?_ ?_ ?_)
      all_goals (try simp (disch := omega) only [amL, sF, ↓reduceIte, reduceCtorEq])
      all_goals first | exact ⟨by omega, hI2, hcl2, fun n hn => (hfr2 n hn).trans (hfr1 n hn), scan_next 0 (by omega) h hsc⟩ | omega | exact hcl2 | exact Sub.refl _ | exact hv2 | (rw [om2]; rfl) | exact ⟨by rw [om2]; rfl, hv2⟩
  ·first
   | exact Bool.noConfusion h
   |skip
    try simp only [decide_eq_false_iff_not] at h
    refine awp_exit ?_
    refine hK2 _ ?_
    refine awp_seq_k fun K11 hK11 => ?_
    refine awp_ops ?_
    simp (disch := omega) only [amL, sA, sM]
    refine hK11 _ ?_
    refine awp_ret ?_
    try simp (disch := omega) only [amL, sM]
    first | (refine retV_mk (res := i64 _) os1 (by simp (disch := omega) only [amL, sM, ↓reduceIte]; try rfl) (Sub.refl _) hcl1 (AV.lives_p _ _) ?_ ; rw [scan_none (by omega) hsc]; exact ⟨rfl, hI1, hfr1⟩) | (refine retV_mk (res := i64 _) os2 (by simp (disch := omega) only [amL, amT, sA, sB, sC, sD, sE, sF, sG, sH, sI, sJ, sK, sL, sM, sN, sO, ↓reduceIte, reduceCtorEq]; try rfl) (Sub.refl _) hcl2 (AV.lives_p _ _) ?_ ; rw [scan_found 0 (by omega) h hsc]; exact ⟨rfl, hI2, fun n hn => (hfr2 n hn).trans (hfr1 n hn)⟩)
theorem c109s {σ : Type} {fv : AV} {F : Nat → Prop} {ds : List Int} {len : Nat} {I : σ → (Nat → Option AO) → Prop} {step : σ → Int → σ × Bool} (hl : ds.length < 1000000) (hlen : len ≤ ds.length) (hT : Tests fv F i64 (ds.take len) I step) {m : Nat} (fm : ¬ F m) {s : σ} {os : Nat → Option AO} {bd : Nat} (hI : I s os) (om : os m = some (.cells (ds.map i64))) :
    VCall Go.Proofs.Try.prog bd (.fn (.func 109) [] []) [.csl m 0 1 len, fv] os fun res os' => res = bl (decide (0 ≤ (scan step s (ds.take len) 0).2)) ∧ I (scan step s (ds.take len) 0).1 os' ∧ ∀ n, ¬ F n → os' n = os n := by
  refine vcall_mk (v := [115]) (q := []) (N := 9) (rs := [.tmp 4]) Go.Proofs.Try.func109 rfl (by kernel_rfl) rfl rfl (fun hcl hfree => ?_)
  refine awp_seq_k fun K1 hK1 => ?_
  refine awp_ops ?_
  simp (disch := omega) only [amL, sA, sB]
  refine hK1 _ ?_
  refine awp_seq_k fun K2 hK2 => ?_
  refine awp_ops ?_
  simp (disch := omega) only [amL, sA, sF, ↓reduceIte, reduceCtorEq]
  refine EV_intro2 [] (by decide) (c115s hl hlen hT fm hI om) hfree (Nat.le_refl _) (fun res os2 hR hcl2 hlv2 => ?_)
  obtain ⟨rfl, hI2, hfr2⟩ := hR
  simp (disch := omega) only [amL, amT, sA, ↓reduceIte]
  refine hK2 _ ?_
  refine awp_ret ?_
  try simp (disch := omega) only [amL]
  refine retV_mk (res := bl _) os2 (by simp (disch := omega) only [amL, ↓reduceIte]; try rfl) (Sub.refl _) hcl2 (AV.lives_p _ _) ⟨rfl, hI2, hfr2⟩
theorem c93s {σ : Type} {ff : Fn} {fs cs : List AV} {F : Nat → Prop} {ds : List Int} {len : Nat} {I : σ → (Nat → Option AO) → Prop} {step : σ → Int → σ × Bool} (hl : ds.length < 1000000) (hlen : len ≤ ds.length) (hT : Tests (.fn ff fs cs) F i64 (ds.take len) I step) (hfv : ∀ m, (AV.fn ff fs cs).clean m = false → F m) {m : Nat} (fm : ¬ F m) {s : σ} {os : Nat → Option AO} {bd : Nat} (hI : I s os) (om : os m = some (.cells (ds.map i64))) :
    VCall Go.Proofs.Try.prog bd (.fn (.func 93) [] []) [.csl m 0 1 len, .fn ff fs cs] os fun res os' => res = bl (allS step s (ds.take len)).2 ∧ I (allS step s (ds.take len)).1 os' ∧ ∀ n, ¬ F n → os' n = os n := by
  refine vcall_mk (v := [109]) (q := []) (N := 9) (rs := [.tmp 4]) Go.Proofs.Try.func93 rfl (by kernel_rfl) rfl rfl (fun hcl hfree => ?_)
  have hfr0 : ∀ k, os (bd + k) = none := fun k => hfree _ (by omega)
  have hF : ∀ n, F n → n < bd := fun n hn => by obtain ⟨o, h, _⟩ := hT.foot s os n hI hn; exact lt_of_live hfree h
  have hmb := lt_of_live hfree om
  have hlv := hT.live _ _ hI
  have hcl0 : (Hp (upd os (bd + 3) (some (.cells [.fn ff fs cs])))).closed := closed_upd hcl (by
    rw [lives_cells_eq, livesL_cons, livesL_nil]
    exact ⟨AV.lives_mono (fun n hn => by by_cases e : n = bd + 3; · subst e; rw [upd_eq]; rfl
                                         · rw [upd_ne e]; exact hn) hlv, trivial⟩)
  have hI0 : I s (upd os (bd + 3) (some (.cells [.fn ff fs cs]))) := hT.stable s os _ hI (fun n hn => upd_ne (by have := hF n hn; omega))
  have ht := t110 hT (nb := bd + 3) (fun h => by have := hF _ h; omega) hfv
  obtain ⟨sa1, sa2⟩ := scan_all (step := step) (ds.take len) s 0
  refine awp_seq_k fun K1 hK1 => ?_
  refine awp_ops ?_
  simp (disch := omega) only [hfr0, amL, sA, sB, ↓reduceIte, reduceCtorEq]
  refine hK1 _ ?_
  refine awp_seq_k fun K2 hK2 => ?_
  refine awp_ops ?_
  simp (disch := omega) only [amL, sA, sF, ↓reduceIte, reduceCtorEq]
  refine EV_intro2 [] (by decide) (c109s (bd := bd + 9) hl hlen ht (m := m) (fun h => h.elim fm (fun e => by omega)) ⟨hI0, upd_eq⟩ ((upd_ne (by omega)).trans om)) (fun n hn => by first | exact hfree n (by omega) | (rw [upd_ne (by omega)]; exact hfree n (by omega))) (Nat.le_add_right bd 9) (fun res os2 hR hcl2 hlv2 => ?_)
  obtain ⟨rfl, ⟨hI2, _⟩, hfr2⟩ := hR
  simp (disch := omega) only [amL, sA, ↓reduceIte]
  refine hK2 _ ?_
  refine awp_ret ?_
  try simp (disch := omega) only [amL]
  rw [sa1] at hI2
  obtain ⟨g1, g2, g3⟩ := hT.drop hcl hfree hI hI2 (fun n hn hF => by rw [hfr2 n (fun h => h.elim hF (fun e => by omega)), upd_ne (by omega)])
  refine retV_mk (res := bl _) (dropFrom bd os2) (by simp (disch := omega) only [amL, ↓reduceIte]; try rfl) (dropFrom_sub _ _) g1 (AV.lives_p _ _) ⟨by rw [sa2], g2, g3⟩
theorem c94 {a : Acc} {nA : Nat} {n : Int} {os : Nat → Option AO} {bd : Nat} (oA : os nA = some (.cells (cA a))) : VCall Go.Proofs.Try.prog bd (.fn (.func 94) [] [.ptr nA 0]) [i64 n] os fun res os' => res = bl (decide (n ≤ a.bond)) ∧ os' = os := by
  refine vcall_mk (v := []) (q := []) (N := 8) (rs := [.tmp 3]) Go.Proofs.Try.func94 rfl (by kernel_rfl) rfl rfl (fun hcl hfree => ?_)
  refine awp_seq_k fun K1 hK1 => ?_
  refine awp_ops ?_
  simp (disch := omega) only [amL, sA, sB]
  refine hK1 _ ?_
  refine awp_seq_k fun K2 hK2 => ?_
  refine awp_ops ?_
  simp (disch := omega) only [oA, amL, amT, sA, sF, ↓reduceIte, reduceCtorEq]
  refine hK2 _ ?_
  refine awp_ret ?_
  try simp (disch := omega) only [amL]
  refine retV_mk (res := bl _) os (by simp (disch := omega) only [amL, ↓reduceIte]; try rfl) (Sub.refl _) hcl (AV.lives_p _ _) ⟨rfl, rfl⟩
theorem t94 {a : Acc} {nA : Nat} {l : List Int} : Tests (.fn (.func 94) [] [.ptr nA 0]) (fun n => n = nA) i64 l (fun (_ : Unit) os => os nA = some (.cells (cA a))) (fun _ n => ((), decide (n ≤ a.bond))) where
  live s os h := by rw [lives_fn_eq, livesL_nil, livesL_cons, livesL_nil, lives_ptr_eq, h]; exact ⟨trivial, rfl, trivial⟩
  stable s os os' h he := (he nA rfl).trans h
  foot s os n h hn := by subst hn; exact ⟨_, h, fun m hm => by rw [clean_cA] at hm; cases hm⟩
  call s x os bd hx h hcl := by
    refine VCall.mono (c94 h) ?_
    rintro r os' ⟨rfl, rfl⟩
    exact ⟨rfl, h, fun _ _ => rfl⟩
def keepsP (a : Acc) (ds : List Int) : Bool := (ds.take (a.last + 1).toNat).all fun n => decide (n ≤ a.bond)
theorem c72 (a : Acc) (ds : List Int) (h0 : 0 ≤ a.last) (h1 : a.last ≤ 11) (hd : ds.length = 12) : PCall Go.Proofs.Try.prog 72 [avA a, .agg (ds.map i64)] (bl (keepsP a ds)) := by
  refine pcall_mk (v := [93]) (q := []) (N := 11) (rs := [.tmp 4]) Go.Proofs.Try.func72 rfl rfl rfl (by simp only [List.all_cons, isP_ints]; rfl) rfl ?_
  refine awp_seq_k fun K1 hK1 => ?_
  refine awp_ops ?_
  simp (disch := omega) only [amL, sA, sB, sF, ↓reduceIte, reduceCtorEq]
  refine hK1 _ ?_
  refine awp_seq_k fun K2 hK2 => ?_
  refine awp_ops ?_
  simp (disch := omega) only [Int.sub_zero, EO_slice95, fSlA_ptr, bound_none, bound_some, bnd1_int, amL, amT, sA, sF, sH, sK, sL, sN, ↓reduceIte, reduceCtorEq]
  refine EV_intro2 [] (by decide) (c93s (bd := 11) (ds := ds) (len := (a.last + 1).toNat) (m := 3) (by omega) (by omega) (t94 (a := a) (nA := 2)) (fun m hm => clean1 (by simpa [AV.clean, AV.clean.cleanL] using hm)) (by decide) (s := ()) rfl rfl) (T_get_none rfl) (by decide) (fun res os2 hR hcl2 hlv2 => ?_)
  obtain ⟨rfl, hI2, hfr2⟩ := hR
  simp (disch := omega) only [amL, sA, ↓reduceIte]
  refine hK2 _ ?_
  refine awp_ret ?_
  try simp (disch := omega) only [amL, ↓reduceIte]
  rw [allS_unit]; rfl
end AM.Try
end
/- The program: whether a plan keeps the bond in some truths. -/
section
namespace AM.Try
open Go AM AM.Duty
open Nat renaming reduceLT → sA, reduceAdd → sB, reduceMul → sC, reduceSub → sD, reduceLeDiff → sE, reduceEqDiff → sF, reduceBEq → sG
open Int renaming reduceAdd → sH, reduceSub → sI, reduceMul → sJ, reduceLT → sK, reduceLE → sL, reduceNeg → sM, reduceToNat → sN, reduceEq → sO
set_option maxHeartbeats 8000000
set_option maxRecDepth 100000
def holds1 (a : Acc) (days t : List Int) : Bool := keepsP a (pad (playS a t days false).1)
theorem c97 {a : Acc} {t days : List Int} {nA nd : Nat} {os : Nat → Option AO} {bd : Nat} (hf : FitP a t) (hd : days.length < 1000000) (oA : os nA = some (.cells (cA a))) (od : os nd = some (.cells [isl days])) :
    VCall Go.Proofs.Try.prog bd (.fn (.func 97) [] [.ptr nA 0, .ptr nd 0]) [isl t] os fun res os' => res = bl (holds1 a days t) ∧ os' = os := by
  refine vcall_mk (v := []) (q := []) (N := 17) (rs := [.tmp 4]) Go.Proofs.Try.func97 rfl (by kernel_rfl) rfl rfl (fun hcl hfree => ?_)
  have hfr0 : ∀ k, os (bd + k) = none := fun k => hfree _ (by omega)
  have bA := lt_of_live hfree oA
  have bd' := lt_of_live hfree od
  have hle := playS_le (a := a) (t := t) (paid := days) (ask := false) hf.last1
  have hpl := pad_len hle
  have hpc := putCells_all (vs := List.map i64 (pad (playS a t days false).1)) (l := [i64 0, i64 0, i64 0, i64 0, i64 0, i64 0, i64 0, i64 0, i64 0, i64 0, i64 0, i64 0]) (by rw [List.length_map, hpl]; rfl)
  have htk := pad_take (acc := (playS a t days false).1) hle
  refine awp_seq_k fun K1 hK1 => ?_
  refine awp_ops ?_
  simp (disch := omega) only [amL, sA, sB]
  refine hK1 _ ?_
  refine awp_seq_k fun K2 hK2 => ?_
  refine awp_ops ?_
  simp (disch := omega) only [oA, od, amL, amT, sA, sB, sF, ↓reduceIte, reduceCtorEq]
  repeat' first | (refine EC_intro (by kernel_rfl) rfl (c59 a t days false hf hd) (.inl (scal_res _ _)) ?_ ; simp (disch := omega) only [hfr0, upd_eq, hpl, hpc, amL, amT, sA, sB, sF, ↓reduceIte])
  refine hK2 _ ?_
  refine awp_seq_k fun K3 hK3 => ?_
  refine awp_ops ?_
  simp (disch := omega) only [oA, upd_ne, upd_eq, hpl, htk, viewL_ints, amL, amT, sA, sB, sF, ↓reduceIte, reduceCtorEq]
  repeat' first | (refine EC_intro (by kernel_rfl) rfl (c72 a _ hf.last0 hf.last1 hpl) (by first | exact .inl rfl | exact .inr (.inl rfl)) ?_ ; simp (disch := omega) only [amL, sA, ↓reduceIte])
  refine hK3 _ ?_
  refine awp_ret ?_
  try simp (disch := omega) only [amL]
  refine retV_mk (res := bl _) os (by simp (disch := omega) only [amL, ↓reduceIte]; try rfl) (fun q => ?_) hcl (AV.lives_p _ _) ⟨rfl, rfl⟩
  by_cases e : q = bd + 5
  · left; rw [e]; exact hfr0 5
  · right; simp (disch := omega) only [upd_ne]
theorem t97 {a : Acc} {days : List Int} {l : List (List Int)} {nA nd : Nat} (hf : ∀ t ∈ l, FitP a t) (hd : days.length < 1000000) : Tests (.fn (.func 97) [] [.ptr nA 0, .ptr nd 0]) (fun n => n = nA ∨ n = nd) (fun t => isl t) l (fun (_ : Unit) os => os nA = some (.cells (cA a)) ∧ os nd = some (.cells [isl days])) (fun _ t => ((), holds1 a days t)) where
  live s os h := by rw [lives_fn_eq, livesL_nil, livesL_cons, livesL_cons, livesL_nil, lives_ptr_eq, lives_ptr_eq, h.1, h.2]; exact ⟨trivial, rfl, rfl, trivial⟩
  stable s os os' h he := ⟨(he nA (.inl rfl)).trans h.1, (he nd (.inr rfl)).trans h.2⟩
  foot s os n h hn := by
    rcases hn with rfl | rfl
    · exact ⟨_, h.1, fun m hm => by rw [clean_cA] at hm; cases hm⟩
    · exact ⟨_, h.2, fun m hm => by simp [AO.clean, AV.clean, AV.clean.cleanL] at hm⟩
  call s x os bd hx h hcl := by
    refine VCall.mono (c97 (hf x hx) hd h.1 h.2) ?_
    rintro r os' ⟨rfl, rfl⟩
    exact ⟨rfl, h, fun _ _ => rfl⟩
theorem c77 (a : Acc) (l : List (List Int)) (days : List Int) (hl : l.length < 1000000) (hf : ∀ t ∈ l, FitP a t) (hd : days.length < 1000000) : PCall Go.Proofs.Try.prog 77 [avA a, .p (.sl (l.map encT)), isl days] (bl (l.all (holds1 a days))) := by
  refine pcall_mk (v := [96]) (q := []) (N := 10) (rs := [.tmp 6]) Go.Proofs.Try.func77 rfl rfl rfl rfl rfl ?_
  refine awp_seq_k fun K1 hK1 => ?_
  refine awp_ops ?_
  simp (disch := omega) only [amL, sA, sB, sF, ↓reduceIte, reduceCtorEq]
  refine hK1 _ ?_
  refine awp_seq_k fun K2 hK2 => ?_
  refine awp_ops ?_
  simp (disch := omega) only [amL, sA, sF, ↓reduceIte, reduceCtorEq]
  refine EV_intro2 [] (by decide) (c96 (bd := 10) hl (t97 (nA := 3) (nd := 5) hf hd) (fun m hm => clean2 hm) (s := ()) ⟨rfl, rfl⟩) (T_get_none rfl) (by decide) (fun res os2 hR hcl2 hlv2 => ?_)
  obtain ⟨rfl, hI2, hfr2⟩ := hR
  simp (disch := omega) only [amL, sA, ↓reduceIte]
  refine hK2 _ ?_
  refine awp_ret ?_
  try simp (disch := omega) only [amL, ↓reduceIte]
  rw [allS_unit]
end AM.Try
end
/- The program: all truths, kept. -/
section
namespace AM.Try
open Go AM AM.Duty
open Nat renaming reduceLT → sA, reduceAdd → sB, reduceMul → sC, reduceSub → sD, reduceLeDiff → sE, reduceEqDiff → sF, reduceBEq → sG
open Int renaming reduceAdd → sH, reduceSub → sI, reduceMul → sJ, reduceLT → sK, reduceLE → sL, reduceNeg → sM, reduceToNat → sN, reduceEq → sO
set_option maxHeartbeats 8000000
set_option maxRecDepth 100000
abbrev encL (x : List Int) : List PV := [.sl (x.map encI)]
def pg (n : Nat) (os : Nat → Option AO) : Nat → Option AO := fun m => if m = n then none else (os m).map (AO.purge n)
theorem purge_os {n : Nat} {l : List (Nat × AV)} {os : Nat → Option AO} : St.purge n ⟨T l, os⟩ = ⟨T (Ter n l), pg n os⟩ := by
  unfold St.purge pg
  rw [← T_purge]
theorem pg_eq {n : Nat} {os : Nat → Option AO} : pg n os n = none := if_pos rfl
theorem pg_ne {n m : Nat} {os : Nat → Option AO} (h : m ≠ n) : pg n os m = (os m).map (AO.purge n) := if_neg h
theorem ren_id {c m : Nat} (x : AV) (hx : x.clean c = true) : x.ren c m = x := by
  have hl : ∀ l : List AV, (∀ x ∈ l, x.clean c = true → x.ren c m = x) → AV.clean.cleanL c l = true → AV.ren.renL c m l = l := by
    intro l
    induction l with
    | nil => intro _ _; rfl
    | cons y l ih =>
      intro h1 h2
      simp only [AV.clean.cleanL, Bool.and_eq_true] at h2
      simp only [AV.ren.renL]
      rw [h1 y (by simp) h2.1, ih (fun x hx => h1 x (by simp [hx])) h2.2]
  have key : ∀ k, (k != c) = true → rn c m k = k := fun k h => by
    unfold rn; rw [if_neg (by simpa using h)]
  match x, hx with
  | .p _, _ => rfl
  | .ptr k _, hx => simp only [AV.ren, key k hx]
  | .eptr k _ _ _, hx => simp only [AV.ren, key k hx]
  | .own k _, hx => simp only [AV.ren, key k hx]
  | .csl k _ _ _, hx => simp only [AV.ren, key k hx]
  | .yld k, hx => simp only [AV.ren, key k hx]
  | .mp k, hx => simp only [AV.ren, key k hx]
  | .fn f fs cs, hx =>
    simp only [AV.clean, Bool.and_eq_true] at hx
    simp only [AV.ren]
    rw [hl fs (fun x _ hx => ren_id x hx) hx.1, hl cs (fun x _ hx => ren_id x hx) hx.2]
  | .agg cs, hx => simp only [AV.ren]; rw [hl cs (fun x _ hx => ren_id x hx) hx]
  | .tup cs, hx => simp only [AV.ren]; rw [hl cs (fun x _ hx => ren_id x hx) hx]
  | .undef, _ => rfl
  termination_by sizeOf x
  decreasing_by all_goals (simp_wf; first | (have := List.sizeOf_lt_of_mem ‹_›; omega) | omega)
theorem map_id_of {α : Type} {f : α → α} {l : List α} (h : ∀ x ∈ l, f x = x) : l.map f = l := by
  induction l with
  | nil => rfl
  | cons x l ih => rw [List.map_cons, h x (by simp), ih (fun y hy => h y (by simp [hy]))]
theorem renO_id {c m : Nat} {x : AO} (h : x.clean c = true) : x.ren c m = x := by
  cases x with
  | arr k es => rfl
  | obj X => rfl
  | cells cs =>
    simp only [AO.ren]
    rw [map_id_of fun x hx => ?_]
    obtain ⟨i, hi⟩ := List.mem_iff_getElem?.1 hx
    exact ren_id x ((cleanL_iff c cs).1 h i x hi)
  | loop k tm =>
    simp only [AO.ren]
    rw [map_id_of fun p hp => ?_]
    obtain ⟨i, hi⟩ := List.mem_iff_getElem?.1 hp
    have := ren_id (m := m) p.2 ((cleanL_iff c _).1 h i p.2 (by simp [hi]))
    rw [this]
theorem purge_id {n : Nat} {x : AV} (h : x.clean n = true) : x.purge n = x := by unfold AV.purge; rw [if_pos h]
theorem purgeO_id {n : Nat} {x : AO} (h : x.clean n = true) : x.purge n = x := by
  cases x with
  | arr k es => rfl
  | obj X => rfl
  | cells cs =>
    simp only [AO.purge]
    rw [map_id_of fun x hx => ?_]
    obtain ⟨i, hi⟩ := List.mem_iff_getElem?.1 hx
    exact purge_id ((cleanL_iff n cs).1 h i x hi)
  | loop k tm =>
    simp only [AO.purge]
    rw [map_id_of fun p hp => ?_]
    obtain ⟨i, hi⟩ := List.mem_iff_getElem?.1 hp
    have := purge_id ((cleanL_iff n _).1 h i p.2 (by simp [hi]))
    rw [this]
theorem fin75 {os : Nat → Option AO} {t : Nat → AV} {n2 nW bdL bd len : Nat} {kb k : LoopK} {X : Option AO} {es : List (List PV)} (hkb : kb = { k with state := .busy }) (hcl : (Hp os).closed) (hfree : ∀ n, bd ≤ n → os n = none) (hap : Apart (fun n => (n = n2 ∨ n = nW) ∨ n = bdL) (fun n => n = nW) os) (hb : bdL < bd) (g1 : n2 < nW) (g2 : nW < bdL) :
    RoundV bdL k [(2, .ptr n2 0)] (fun res os' => res = bl true ∧ ((os' n2 = some (.cells [.own nW len]) ∧ os' nW = some (.arr 1 es)) ∧ os' bdL = some (.loop (stK k none) [(2, .ptr n2 0)])) ∧ ∀ n, ¬ ((n = n2 ∨ n = nW) ∨ n = bdL) → os' n = os n) none
      (St.ren (bd + 12) nW ⟨t, upd (upd (pg nW (upd (upd os bdL (some (.loop kb [(2, .ptr n2 0)]))) (bd + 11) X)) (bd + 12) (some (.arr 1 es))) n2 (some (.cells [.own (bd + 12) len]))⟩) := by
  have e2 : rn (bd + 12) nW n2 = n2 := by unfold rn; rw [if_neg (by omega)]
  have ec : rn (bd + 12) nW (bd + 12) = nW := by unfold rn; rw [if_pos rfl]
  have hS : ∀ q, q ≠ n2 → q ≠ nW → q ≠ bdL → ∀ o, os q = some o → (St.ren (bd + 12) nW ⟨t, upd (upd (pg nW (upd (upd os bdL (some (.loop kb [(2, .ptr n2 0)]))) (bd + 11) X)) (bd + 12) (some (.arr 1 es))) n2 (some (.cells [.own (bd + 12) len]))⟩).o q = some o := fun q h2 hW hL o ho => by
    have hq := lt_of_live hfree ho
    simp only [St.ren]
    rw [if_neg hW, if_neg (by omega)]
    simp (disch := omega) only [upd_ne, pg_ne, ho, Option.map_some]
    rw [purgeO_id (hap q o (by omega) ho nW rfl), renO_id (cleanO_of_none (hcl.2 q o ho) (hfree _ (by omega)))]
  refine round_mk (upd (upd (upd os nW (some (.arr 1 es))) n2 (some (.cells [.own nW len]))) bdL (some (.loop (stK k none) [(2, .ptr n2 0)]))) ?_ (fun q => ?_) ?_ ⟨rfl, ⟨⟨?_, ?_⟩, ?_⟩, fun n hn => ?_⟩
  · simp only [St.ren]
    rw [if_neg (by omega), if_neg (by omega)]
    simp (disch := omega) only [upd_ne, upd_eq, pg_ne, Option.map_some]
    have h2 : (AV.ptr n2 0).purge nW = .ptr n2 0 := purge_id (by simp [AV.clean]; omega)
    simp only [AO.purge, AO.ren, List.map_cons, List.map_nil, h2, AV.ren, e2, hkb]
  · by_cases eL : q = bdL
    · subst eL; right; rw [upd_eq, upd_eq]
    · rw [upd_ne eL, upd_ne eL]
      by_cases en : q = n2
      · subst en; right; rw [upd_eq]
        simp only [St.ren]
        rw [if_neg (by omega), if_neg (by omega), upd_eq]
        simp only [Option.map_some, AO.ren, List.map_cons, List.map_nil, AV.ren, ec]
      · rw [upd_ne en]
        by_cases eW : q = nW
        · subst eW; right; rw [upd_eq]
          simp only [St.ren, if_true]
          simp (disch := omega) only [upd_ne, upd_eq, Option.map_some]
          rfl
        · rw [upd_ne eW]
          cases ho : os q with
          | none => exact .inl rfl
          | some o => exact .inr (hS q en eW eL o ho).symm
  · refine closed_upd (closed_upd (closed_upd hcl (by rw [lives_arr_eq]; trivial)) ?_) ?_
    · rw [lives_cells_eq]; simp (disch := omega) only [livesL_nil, livesL_cons, lives_own_eq, upd_ne, upd_eq, Option.isSome_some, and_self]
    · rw [lives_loop_eq]; simp (disch := omega) only [livesT_nil, livesT_cons, lives_ptr_eq, upd_ne, upd_eq, Option.isSome_some, and_self]
  all_goals (simp (disch := omega) only [upd_ne, upd_eq])
def bst75 (s : List (List Int)) (x : List Int) : List (List Int) × Option Code := (s ++ [x], none)
theorem rounds75 {a : Acc} {n2 nW bdL : Nat} (g1 : n2 < nW) (g2 : nW < bdL) {A B : Code} (hcode : (Go.Proofs.Try.f75.body.bind rangeOf) = some (A, B)) :
    Rounds bdL ⟨16, [6, 7], A, B, .ready, none⟩ [(2, .ptr n2 0)] [70] [] (fun n => n = n2 ∨ n = nW) (fun n => n = nW) (exA a) (fun x => x.length < 1000000) (fun r s => s.length + r ≤ 1000) (fun (s : List (List Int)) os => os n2 = some (.cells [.own nW s.length]) ∧ os nW = some (.arr 1 (s.map encL))) bst75 where
  mvF n hn := .inr hn
  ready := rfl
  lenp _ := rfl
  psn p hp := by
    simp only [List.mem_cons, List.not_mem_nil, or_false] at hp
    rcases hp with rfl | rfl
    · exact (by decide : 6 < 16)
    · exact (by decide : 7 < 16)
  notF h := by omega
  tmF m hm := by
    left; exact clean1 (by simpa [AO.clean, AV.clean.cleanL] using hm)
  stable s os os' hI he := ⟨(he n2 (.inl rfl)).trans hI.1, (he nW (.inr rfl)).trans hI.2⟩
  foot s os n hI hn := by
    rcases hn with rfl | rfl
    · refine ⟨_, hI.1, fun m hm => .inr ?_⟩
      simp [AO.clean, AV.clean.cleanL, AV.clean] at hm; exact hm.symm
    · exact ⟨_, hI.2, fun m hm => by simp [AO.clean] at hm⟩
  mono r s h := by omega
  next r s x ho hg h := by simp [bst75]; omega
  body r s x os bd na ho hg hI hap hF hne ha hl hcl hfree hb l := by
    obtain ⟨o2, oW⟩ := hI
    have hfr0 : ∀ k, os (bd + k) = none := fun k => hfree _ (by omega)
    have bna := lt_of_live hfree ha
    obtain ⟨kb, hkb⟩ : ∃ kb : LoopK, kb = ⟨16, [6, 7], A, B, .busy, none⟩ := ⟨_, rfl⟩
    cases (show some (_, _) = some (A, B) from hcode)
    show AWP _ _ 16 _ ⟨T [(7, .agg ((pad (playS a x [] true).1).map i64)), (6, .own na x.length), (2, .ptr n2 0)], os⟩ _
    refine awp_ops ?_
    simp (disch := omega) only [hl, amL, sA, sF, ↓reduceIte]
    try simp (disch := omega) only [hl, hfr0, upd_ne, amL, amT, sA, sB, sC, sD, sE, sF, sG, sH, sI, sJ, sK, sL, sM, sN, sO, ↓reduceIte, reduceCtorEq]
    skip; refine AWP.ren ?_
    refine awp_block ?_
    refine awp_any2 (by kernel_rfl) (by kernel_rfl) ?_
    rw [← hkb]
    simp (disch := omega) only [o2, ha, upd_ne, take_enc, amL, amT, sA, sF, sG, ↓reduceIte]
    repeat' first | (refine EF_intro (by kernel_rfl) rfl (c60 x ho) ?_ ; simp (disch := omega) only [o2, oW, hfr0, upd_ne, upd_eq, RoundQ_normal, purge_os, pg_ne, Option.map_none, amL, amT, sA, sE, sF, ↓reduceIte, reduceCtorEq])
    try simp (disch := omega) only [o2, oW, ha, hl, hfr0, upd_ne, upd_eq, take_enc, RoundQ_normal, RoundQ_ret, purge_os, pg_ne, pg_eq, Option.map_none, amL, amT, sA, sB, sC, sD, sE, sF, sG, sH, sI, sJ, sK, sL, sM, sN, sO, ↓reduceIte, reduceCtorEq]
    refine .inr ⟨bd + 12, nW, ?_, by omega, .inl rfl, ?_⟩
    · simp (disch := omega) only [upd_ne, pg_eq]
    · have hes : List.map encL s ++ [[PV.sl (List.map (fun n => [iv n]) x)]] = List.map encL (s ++ [x]) := by rw [List.map_append]; rfl
      rw [hes, show s.length + 1 = (s ++ [x]).length by simp]
      refine fin75 (es := List.map encL (s ++ [x])) (len := (s ++ [x]).length) ?_ hcl hfree hap hb g1 g2
      rw [hkb]
end AM.Try
end
