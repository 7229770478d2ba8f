/- Lemmas for the proof: an abstract machine over the program's form in Lean, and the program's functions walked on it. -/
import Derived.Test.YtkmgffkfbocebaaP4
import Derived.Scope
/- The program: whether the bond is kept. -/
section
namespace AM.Try
open Go AM AM.Duty
open Nat renaming reduceLT → sA, reduceAdd → sB, reduceMul → sC, reduceSub → sD, reduceLeDiff → sE, reduceEqDiff → sF, reduceBEq → sG
open Int renaming reduceAdd → sH, reduceSub → sI, reduceMul → sJ, reduceLT → sK, reduceLE → sL, reduceNeg → sM, reduceToNat → sN, reduceEq → sO
set_option maxHeartbeats 8000000
set_option maxRecDepth 100000
def bst31 (a : Acc) (s : Bool × Bool) (x : List Int) : (Bool × Bool) × Option Code := ((s.1 || keepsP a (pad (playS a x [] true).1), s.2 || !keepsP a (pad (playS a x [] true).1)), none)
theorem sub_congr' {f g : Nat → Option AO} {n : Nat} {x : Option AO} (h : ∀ q, q ≠ n → f q = none ∨ f q = g q) : Sub (upd f n x) (upd g n x) := fun q => by
  by_cases e : q = n
  · subst e; right; rw [upd_eq, upd_eq]
  · rw [upd_ne e, upd_ne e]; exact h q e
theorem rounds31 {a : Acc} (hf : faultS a = 0) {n1 n5 n6 bdL : Nat} (h1 : n1 < n5) (h2 : n5 < n6) (h3 : n6 < bdL) {A B : Code} (hcode : (Go.Proofs.Try.f31.body.bind rangeOf) = some (A, B)) :
    Rounds bdL ⟨40, [17, 18], A, B, .ready, none⟩ [(1, .ptr n1 0), (5, .ptr n5 0), (6, .ptr n6 0)] [70] [] (fun n => n = n1 ∨ n = n5 ∨ n = n6) (fun _ => False) (exA a) (fun _ => True) (fun _ _ => True) (fun (s : Bool × Bool) os => os n1 = some (.cells (cA a)) ∧ os n5 = some (.cells [bl s.1]) ∧ os n6 = some (.cells [bl s.2])) (bst31 a) where
  mvF _ h := h.elim
  ready := rfl
  lenp _ := rfl
  psn p hp := by
    simp only [List.mem_cons, List.not_mem_nil, or_false] at hp
    rcases hp with rfl | rfl
    · exact (by decide : 17 < 40)
    · exact (by decide : 18 < 40)
  notF h := by omega
  tmF m hm := by
    by_cases e1 : m = n1
    · exact .inl e1
    · by_cases e2 : m = n5
      · exact .inr (.inl e2)
      · by_cases e3 : m = n6
        · exact .inr (.inr e3)
        · simp [AO.clean, AV.clean, AV.clean.cleanL, Ne.symm e1, Ne.symm e2, Ne.symm e3] at hm
  stable s os os' hI he := ⟨(he n1 (.inl rfl)).trans hI.1, (he n5 (.inr (.inl rfl))).trans hI.2.1, (he n6 (.inr (.inr rfl))).trans hI.2.2⟩
  foot s os n hI hn := by
    rcases hn with rfl | rfl | rfl
    · exact ⟨_, hI.1, fun m hm => by rw [clean_cA] at hm; cases hm⟩
    · exact ⟨_, hI.2.1, fun m hm => by simp [AO.clean, AV.clean, AV.clean.cleanL] at hm⟩
    · exact ⟨_, hI.2.2, fun m hm => by simp [AO.clean, AV.clean, AV.clean.cleanL] at hm⟩
  mono _ _ h := h
  next r s x ho hg h := trivial
  body r s x os bd na ho hg hI hap hF hne ha hl hcl hfree hb l := by
    obtain ⟨o1, o5, o6⟩ := hI
    have hfr0 : ∀ k, os (bd + k) = none := fun k => hfree _ (by omega)
    obtain ⟨_, _, z3, _, _, _⟩ := fault_zero hf
    simp only [inB, Bool.and_eq_true, decide_eq_true_eq] at z3
    have hle := playS_le (a := a) (t := x) (paid := []) (ask := true) (by omega)
    have hpl := pad_len hle
    have hpc := putCells_all (vs := List.map i64 (pad (playS a x [] true).1)) (l := [i64 0, i64 0, i64 0, i64 0, i64 0, i64 0, i64 0, i64 0, i64 0, i64 0, i64 0, i64 0]) (by rw [List.length_map, hpl]; rfl)
    have htk := pad_take (acc := (playS a x [] true).1) hle
    cases (show some (_, _) = some (A, B) from hcode)
    show AWP _ _ 40 _ ⟨T [(18, .agg ((pad (playS a x [] true).1).map i64)), (17, .own na x.length), (1, .ptr n1 0), (5, .ptr n5 0), (6, .ptr n6 0)], os⟩ _
    refine awp_ops ?_
    simp (disch := omega) only [hl, hfr0, upd_ne, hpl, hpc, amL, amT, sA, sB, sF, ↓reduceIte]
    try simp (disch := omega) only [hl, hfr0, upd_ne, hpl, hpc, htk, amL, amT, sA, sB, sC, sD, sE, sF, sG, sH, sI, sJ, sK, sL, sM, sN, sO, ↓reduceIte, reduceCtorEq]
    skip
    refine awp_block ?_
    refine awp_seq_k fun K1 hK1 => ?_
    refine awp_ops ?_
    simp (disch := omega) only [o1, upd_ne, upd_eq, hpl, htk, viewL_ints, amL, amT, sA, sB, sF, sG, ↓reduceIte]
    repeat' first | (refine EC_intro (by kernel_rfl) rfl (c72 a _ (by omega) (by omega) hpl) (by first | exact .inl rfl | exact .inr (.inl rfl)) ?_ ; simp (disch := omega) only [amL, sA, ↓reduceIte])
    refine hK1 _ ?_
    refine awp_ops ?_
    simp (disch := omega) only [o5, upd_ne, amL, amT, sA, sF, ↓reduceIte]
    repeat' first | (refine EG_dec (fun h => ?_) (fun h => ?_) <;> simp (disch := omega) only [h, o1, o5, o6, hl, hfr0, upd_ne, upd_eq, hpl, htk, viewL_ints, RoundQ_normal, RoundQ_ret, amL, amT, sA, sB, sC, sD, sE, sF, sG, sH, sI, sJ, sK, sL, sM, sN, sO, ↓reduceIte, reduceCtorEq]) | (refine EG_cases (fun h => ?_) (fun h => ?_) <;> simp (disch := omega) only [h, o5, o6, upd_ne, RoundQ_normal, amL, amT, sA, sF, ↓reduceIte])
    all_goals
     skip
     try simp (disch := omega) only [o1, o5, o6, hl, hfr0, upd_ne, upd_eq, hpl, htk, viewL_ints, RoundQ_normal, RoundQ_ret, amL, amT, sA, sB, sC, sD, sE, sF, sG, sH, sI, sJ, sK, sL, sM, sN, sO, ↓reduceIte, reduceCtorEq]
     refine round_mk (upd (upd (upd os n5 (some (.cells [bl (bst31 a s x).1.1]))) n6 (some (.cells [bl (bst31 a s x).1.2]))) bdL (some (.loop (stK _ none) [(1, .ptr n1 0), (5, .ptr n5 0), (6, .ptr n6 0)]))) (by simp (disch := omega) only [upd_ne, upd_eq]) (sub_congr' fun q hq => ?_) ?_ ⟨rfl, ⟨⟨by simp (disch := omega) only [upd_ne]; exact o1, by simp (disch := omega) only [upd_ne, upd_eq], by simp (disch := omega) only [upd_ne, upd_eq]⟩, upd_eq⟩, fun n hn => by simp (disch := omega) only [upd_ne]⟩
     · by_cases e6 : q = n6
       · subst e6; right; rw [upd_eq]
         show some (AO.cells [bl (s.2 || _)]) = upd _ _ _ _
         rw [upd_eq]
         first | (rw [show s.2 = true by assumption]; rfl) | (rw [show s.2 = false by assumption]; rfl)
       · by_cases e5 : q = n5
         · subst e5; right; rw [upd_ne (by omega), upd_eq]
           show some (AO.cells [bl (s.1 || _)]) = upd _ _ _ _
           rw [upd_ne (by omega), upd_eq]
           first | (rw [show s.1 = true by assumption]; rfl) | (rw [show s.1 = false by assumption]; rfl)
         · by_cases e8 : q = bd + 8
           · left; subst e8; simp (disch := omega) only [upd_ne]; exact hfr0 8
           · right; simp (disch := omega) only [upd_ne]
     · refine closed_upd (closed_upd (closed_upd hcl (by rw [lives_cells_eq]; simp only [livesL_nil, livesL_cons, lives_p_eq, and_self])) (by rw [lives_cells_eq]; simp only [livesL_nil, livesL_cons, lives_p_eq, and_self])) fun m hm => ?_
       by_cases e1 : m = n1
       · subst e1; simp (disch := omega) only [upd_ne]; rw [o1]; rfl
       · by_cases e2 : m = n5
         · subst e2; simp (disch := omega) only [upd_ne, upd_eq]; rfl
         · by_cases e3 : m = n6
           · subst e3; simp (disch := omega) only [upd_ne, upd_eq]; rfl
           · simp [AO.clean, AV.clean, AV.clean.cleanL, Ne.symm e1, Ne.symm e2, Ne.symm e3] at hm
def fold31 (a : Acc) (s : Bool × Bool) (l : List (List Int)) : Bool × Bool := l.foldl (fun s x => (bst31 a s x).1) s
theorem allS_31 {a : Acc} : ∀ (l : List (List Int)) (s : Bool × Bool), (allS (fun (s : (Bool × Bool) × Option Code) x => (bst31 a s.1 x, (bst31 a s.1 x).2.isNone)) (s, none) l).1 = (fold31 a s l, none)
  | [], s => rfl
  | x :: l, s => by
    show (if (bst31 a s x).2.isNone = true then allS _ (bst31 a s x) l else _).1 = _
    rw [if_pos (show (bst31 a s x).2.isNone = true from rfl)]
    exact allS_31 l (bst31 a s x).1
def keptA (a : Acc) : AV :=
  if faultS a = 0 then match fold31 a (false, false) (truthsL a) with
    | (true, true) => .tup [i64 3, i64 0]
    | (true, false) => .tup [i64 1, i64 0]
    | (false, true) => .tup [i64 2, i64 0]
    | (false, false) => .tup [i64 0, i64 9]
  else .tup [i64 0, i64 (faultS a)]
theorem keptA_isP (a : Acc) : (keptA a).isP = true := by
  unfold keptA; split
  · split <;> rfl
  · rfl
theorem c31 (a : Acc) (hl1 : a.rates.length < 1000000) (hl2 : a.entries.length < 1000000) (hin : ∀ e ∈ a.entries, inR e.lo = true ∧ inR e.hi = true) : PCall Go.Proofs.Try.prog 31 [avA a] (keptA a) := by
  refine pcalld_mk (v := [70]) (q := []) (N := 40) (rs := [.tmp 2, .tmp 3]) Go.Proofs.Try.func31 rfl rfl rfl rfl (keptA_isP a) ?_
  obtain ⟨A, B, hcode⟩ : ∃ A B, (Go.Proofs.Try.f31.body.bind rangeOf) = some (A, B) := ⟨_, _, rfl⟩
  refine awpd_seq_p fun K1 hK1 => ?_
  refine awp_ops ?_
  simp (disch := omega) only [amL, sA, ↓reduceIte]
  refine hK1 _ ?_
  refine awpd_seq_p fun K2 hK2 => ?_
  refine awp_seq_k fun K3 hK3 => ?_
  refine awp_ops ?_
  simp (disch := omega) only [amL, amT, sA, sB, sF, sG, ↓reduceIte]
  repeat' first | (refine EC_intro (by kernel_rfl) rfl (c25 a hl1 hl2 hin) (by first | exact .inl rfl | exact .inr (.inl rfl)) ?_ ; simp (disch := omega) only [amL, sA, ↓reduceIte])
  refine hK3 _ ?_
  refine awp_seq_k fun K4 hK4 => ?_
  refine awp_ops ?_
  simp (disch := omega) only [ne_eq, amL, amT, sA, ↓reduceIte]
  refine hK4 _ ?_
  refine awp_cond rfl (fun h => ?_) (fun h => ?_)
  ·first
   | exact Bool.noConfusion h
   |skip
    try simp only [Bool.not_eq_true', decide_eq_false_iff_not, decide_not] at h
    refine awp_seq_k fun K5 hK5 => ?_
    refine awp_ops ?_
    simp (disch := omega) only [amL, sA, sF, ↓reduceIte]
    refine hK5 _ ?_
    refine awp_ret ?_
    try simp (disch := omega) only [amL, sF, ↓reduceIte]
    first | (rw [keptA, if_neg (by assumption)]; done) | (rw [keptA, if_pos (by omega), hb]; obtain ⟨b1, b2⟩ := b; dsimp only at *; simp_all; done) | (omega)
  ·first
   | exact Bool.noConfusion h
   |skip
    try simp only [decide_eq_true_eq, Bool.not_eq_false', decide_not] at h
    refine awp_skip ?_
    refine hK2 _ ?_
    refine awpd_seq_p fun K6 hK6 => ?_
    refine awp_ops ?_
    simp (disch := omega) only [amL, amT, sA, sF, ↓reduceIte]
    refine hK6 _ ?_
    refine awpd_seq_k fun K7 hK7 => ?_
    refine awpd_seq_p fun K8 hK8 => ?_
    refine awp_ops ?_
    simp (disch := omega) only [amL, amT, sA, sB, sF, ↓reduceIte]
    refine EV_intro2 [(1, .ptr 1 0), (5, .ptr 5 0), (6, .ptr 6 0)] (by decide) (c70 (bd := 40)) (T_get_none rfl) (by decide) (fun res os2 hR hcl2 hlv2 => ?_)
    obtain ⟨rfl, rfl⟩ := hR
    simp (disch := omega) only [amL, sB, sF, ↓reduceIte]
    refine hK8 _ ?_
    refine awpd_block ?_
    have hf : faultS a = 0 := by omega
    have hRd := rounds31 hf (n1 := 1) (n5 := 5) (n6 := 6) (bdL := 42) (by decide) (by decide) (by decide) hcode
    have hc := c90 (rr := 0) hRd.yields rfl hf (nA := 41) (s := ((false, false), none)) (bd := 43) (os := O [(42, .loop (stK ⟨40, [17, 18], A, B, .ready, none⟩ none) [(1, .ptr 1 0), (5, .ptr 5 0), (6, .ptr 6 0)]), (41, .cells (cA a)), (6, .cells [bl false]), (5, .cells [bl false]), (6, .cells [bl false]), (5, .cells [bl false]), (1, .cells (cA a))]) (by decide) rfl ⟨trivial, rfl⟩ ⟨⟨rfl, rfl, rfl⟩, rfl⟩ Apart.none (fun _ _ => trivial)
    cases (show some (_, _) = some (A, B) from hcode)
    refine awpd_rangeFunc (bd := 42) (tm := [(1, .ptr 1 0), (5, .ptr 5 0), (6, .ptr 6 0)]) rfl (T_get_none rfl) (by decide) rfl (by kernel_rfl) (fun i => leT_get (by simp (disch := omega) only [amL, sF, ↓reduceIte]) i) (tm_get (by simp (disch := omega) only [amL, sF, ↓reduceIte])) hc (fun res os2 hR hcl2 => ?_)
    obtain ⟨rfl, hI2, hfr2⟩ := hR
    rw [allS_31] at hI2
    generalize hb : fold31 a (false, false) (truthsL a) = b at hI2
    obtain ⟨⟨_, q5, q6⟩, q7⟩ := hI2
    dsimp only at q5 q6 q7
    refine ⟨_, q7, by simp [], ?_⟩
    show blockQ 0 _ .normal _
    simp only [blockQ_normal, thenQ_normal]
    refine hK7 _ ?_
    refine awpd_seq_p fun K9 hK9 => ?_
    refine awp_block ?_
    refine awp_seq_k fun K10 hK10 => ?_
    refine awp_ops ?_
    simp (disch := omega) only [q5, upd_ne, amL, amT, sA, sF, ↓reduceIte]
    repeat' first | (refine EG_dec (fun h => ?_) (fun h => ?_) <;> simp (disch := omega) only [h, q5, q6, ne_eq, upd_ne, amL, amT, sA, sB, sC, sD, sE, sF, sG, sH, sI, sJ, sK, sL, sM, sN, sO, ↓reduceIte, reduceCtorEq]) | (refine EG_cases (fun h => ?_) (fun h => ?_) <;> simp (disch := omega) only [h, q6, upd_ne, amL, amT, sA, sF, ↓reduceIte])
    all_goals
     skip
     refine hK10 _ ?_
     refine awp_cond rfl (fun h => ?_) (fun h => ?_)
     ·first
      | exact Bool.noConfusion h
      |skip
       try simp only [Bool.not_eq_true', decide_eq_true_eq, decide_eq_false_iff_not, Bool.and_eq_true, Bool.not_eq_false', Bool.not_not, decide_not, Bool.not_true, Bool.not_false] at h
       refine awp_seq_k fun K11 hK11 => ?_
       refine awp_ops ?_
       simp (disch := omega) only [amL, sA]
       refine hK11 _ ?_
       refine awp_ret ?_
       try simp (disch := omega) only [amL, sF, ↓reduceIte]
       first | (rw [keptA, if_neg (by assumption)]; done) | (rw [keptA, if_pos (by omega), hb]; obtain ⟨b1, b2⟩ := b; dsimp only at *; simp_all; done) | (omega)
     ·first
      | exact Bool.noConfusion h
      |skip
       try simp only [] at h
       refine awp_seq_k fun K12 hK12 => ?_
       refine awp_ops ?_
       simp (disch := omega) only [q5, upd_ne, amL, amT, sA, sF, ↓reduceIte]
       refine hK12 _ ?_
       refine awp_cond rfl (fun h => ?_) (fun h => ?_)
       ·first
        | exact Bool.noConfusion h
        |skip
         try simp only [Bool.not_eq_true', decide_eq_true_eq, decide_eq_false_iff_not, Bool.and_eq_true, Bool.not_eq_false', Bool.not_not, decide_not, Bool.not_true, Bool.not_false] at h
         refine awp_seq_k fun K13 hK13 => ?_
         refine awp_ops ?_
         simp (disch := omega) only [amL, sA]
         refine hK13 _ ?_
         refine awp_ret ?_
         try simp (disch := omega) only [amL, sF, ↓reduceIte]
         first | (rw [keptA, if_neg (by assumption)]; done) | (rw [keptA, if_pos (by omega), hb]; obtain ⟨b1, b2⟩ := b; dsimp only at *; simp_all; done) | (omega)
       ·first
        | exact Bool.noConfusion h
        |skip
         try simp only [Bool.not_eq_true', decide_eq_true_eq, decide_eq_false_iff_not, Bool.and_eq_true, Bool.not_eq_false', Bool.not_not, decide_not, Bool.not_true, Bool.not_false] at h
         refine awp_seq_k fun K14 hK14 => ?_
         refine awp_ops ?_
         simp (disch := omega) only [q6, upd_ne, amL, amT, sA, sF, ↓reduceIte]
         refine hK14 _ ?_
         refine awp_cond rfl (fun h => ?_) (fun h => ?_)
         ·first
          | exact Bool.noConfusion h
          |skip
           try simp only [Bool.not_eq_true', decide_eq_true_eq, decide_eq_false_iff_not, Bool.and_eq_true, Bool.not_eq_false', Bool.not_not, decide_not, Bool.not_true, Bool.not_false] at h
           refine awp_seq_k fun K15 hK15 => ?_
           refine awp_ops ?_
           simp (disch := omega) only [amL, sA]
           refine hK15 _ ?_
           refine awp_ret ?_
           try simp (disch := omega) only [amL, sF, ↓reduceIte]
           first | (rw [keptA, if_neg (by assumption)]; done) | (rw [keptA, if_pos (by omega), hb]; obtain ⟨b1, b2⟩ := b; dsimp only at *; simp_all; done) | (omega)
         ·first
          | exact Bool.noConfusion h
          |skip
           try simp only [Bool.not_eq_true', decide_eq_true_eq, decide_eq_false_iff_not, Bool.and_eq_true, Bool.not_eq_false', Bool.not_not, decide_not, Bool.not_true, Bool.not_false] at h
           refine awp_skip ?_
           refine hK9 _ ?_
           refine awpd_seq_p fun K16 hK16 => ?_
           refine awp_ops ?_
           simp (disch := omega) only [amL, sA]
           refine hK16 _ ?_
           refine awpd_of_awp ?_
           refine awp_ret ?_
           try simp (disch := omega) only [amL, sF, ↓reduceIte]
           first | (rw [keptA, if_neg (by assumption)]; done) | (rw [keptA, if_pos (by omega), hb]; obtain ⟨b1, b2⟩ := b; dsimp only at *; simp_all; done) | (omega)
end AM.Try
end
/- The program: the smallest of some numbers. -/
section
namespace AM.Try
open Go AM AM.Duty
open Nat renaming reduceLT → sA, reduceAdd → sB, reduceMul → sC, reduceSub → sD, reduceLeDiff → sE, reduceEqDiff → sF, reduceBEq → sG
open Int renaming reduceAdd → sH, reduceSub → sI, reduceMul → sJ, reduceLT → sK, reduceLE → sL, reduceNeg → sM, reduceToNat → sN, reduceEq → sO
set_option maxHeartbeats 8000000
set_option maxRecDepth 100000
def minF (m : Int) : List Int → Int
  | [] => m
  | x :: l => minF (min m x) l
theorem minF_step {l : List Int} {k : Nat} {m : Int} (h : k < l.length) : minF m (l.drop k) = minF (min m (l.getD k 0)) (l.drop (k + 1)) := by
  rw [drop_getD (d := 0) h]; rfl
theorem minF_end {l : List Int} {k : Nat} {m : Int} (h : l.length ≤ k) : minF m (l.drop k) = m := by rw [List.drop_of_length_le h]; rfl
theorem c92 (l : List Int) (hl : l.length < 1000000) (h0 : 0 < l.length) : PCall Go.Proofs.Try.prog 92 [isl l] (i64 (minF (l.getD 0 0) (l.drop 1))) := by
  refine pcall_mk (v := []) (q := []) (N := 25) (rs := [.tmp 2]) Go.Proofs.Try.func92 rfl rfl rfl rfl rfl ?_
  refine awp_seq_k fun K1 hK1 => ?_
  refine awp_ops ?_
  simp (disch := omega) only [amL, sA]
  refine hK1 _ ?_
  refine awp_seq_k fun K2 hK2 => ?_
  refine awp_seq_k fun K3 hK3 => ?_
  refine awp_ops ?_
  simp (disch := omega) only [amL, amT, sA, ↓reduceIte, reduceCtorEq]
  refine hK3 _ ?_
  refine awp_cond rfl (fun h => ?_) (fun h => ?_)
  ·first
   | exact Bool.noConfusion h
   |skip
    try simp only [decide_eq_true_eq] at h
    exact absurd h (by omega)
  ·first
   | exact Bool.noConfusion h
   |skip
    try simp only [decide_eq_false_iff_not] at h
    refine awp_skip ?_
    refine hK2 _ ?_
    refine awp_seq_k fun K4 hK4 => ?_
    refine awp_ops ?_
    simp (disch := omega) only [amL, amT, sA, sL, sN, ↓reduceIte, reduceCtorEq]
    refine hK4 _ ?_
    refine awp_seq_k fun K5 hK5 => ?_
    refine awp_seq_k fun K6 hK6 => ?_
    refine awp_ops ?_
    simp (disch := omega) only [amL, sA]
    refine hK6 _ ?_
    refine awp_block ?_
    skip
    refine awp_loop_k (α := Nat × Int) (fun x => ⟨T [(0, isl l), (4, i64 x.1), (3, i64 x.2)], O []⟩) (fun x => l.length - x.1) (fun x => 1 ≤ x.1 ∧ x.1 ≤ l.length ∧ minF x.2 (l.drop x.1) = minF (l.getD 0 0) (l.drop 1)) (1, l.getD 0 0) ?_ ?_ (fun x hx7 K7 hK7 => ?_)
    · exact ⟨by simp, by omega, rfl⟩
    · refine le_mk ?_ ?_ ?_ ?_ <;> (try simp (disch := omega) only [amL, sF, sH, ↓reduceIte, reduceCtorEq])
    obtain ⟨k, m⟩ := x; dsimp only at hx7 ⊢; obtain ⟨hk1, hk, hn⟩ := hx7
    refine awp_seq_k fun K8 hK8 => ?_
    refine awp_seq_k fun K9 hK9 => ?_
    refine awp_ops ?_
    simp (disch := omega) only [amL, amT, sA, sF, ↓reduceIte, reduceCtorEq]
    refine hK9 _ ?_
    refine awp_cond rfl (fun h => ?_) (fun h => ?_)
    ·first
     | exact Bool.noConfusion h
     |skip
      try simp only [decide_eq_true_eq] at h
      refine awp_skip ?_
      refine hK8 _ ?_
      refine awp_seq_k fun K10 hK10 => ?_
      refine awp_block ?_
      refine awp_ops ?_
      simp (disch := omega) only [amL, amT, sA, sF, ↓reduceIte, reduceCtorEq]
      refine hK10 _ ?_
      refine awp_ops ?_
      simp (disch := omega) only [amL, amT, sA, sF, ↓reduceIte, reduceCtorEq]
      refine hK7 (k+1, min m (l.getD k 0)) _ ?_ ?_ (le_mk ?_ ?_ ?_ ?_)
      all_goals (try simp (disch := omega) only [amL, sE, sF, ↓reduceIte, reduceCtorEq])
      all_goals first | omega | exact ⟨by omega, by rw [minF_step (by omega)] at hn; exact hn⟩ | ((have e : (if l.getD k 0 < m then l.getD k 0 else m) = min m (l.getD k 0) := by rw [Int.min_def]; split <;> split <;> omega); rw [e]; done) | (omega)
    ·first
     | exact Bool.noConfusion h
     |skip
      try simp only [decide_eq_false_iff_not] at h
      refine awp_exit ?_
      refine hK5 _ ?_
      refine awp_seq_k fun K11 hK11 => ?_
      refine awp_ops ?_
      simp (disch := omega) only [amL, sA, sF, ↓reduceIte, reduceCtorEq]
      refine hK11 _ ?_
      refine awp_ret ?_
      try simp (disch := omega) only [amL, ↓reduceIte]
      first | (rw [minF_end (by omega)] at hn; rw [hn]; done) | (omega)
theorem c71 (l : List Int) (hl : l.length < 1000000) (h0 : 0 < l.length) : PCall Go.Proofs.Try.prog 71 [isl l] (i64 (minF (l.getD 0 0) (l.drop 1))) := by
  refine pcall_mk (v := []) (q := []) (N := 5) (rs := [.tmp 2]) Go.Proofs.Try.func71 rfl rfl rfl rfl rfl ?_
  refine awp_seq_k fun K1 hK1 => ?_
  refine awp_ops ?_
  simp (disch := omega) only [amL, sA]
  refine hK1 _ ?_
  refine awp_seq_k fun K2 hK2 => ?_
  refine awp_ops ?_
  simp (disch := omega) only [amL, sA, ↓reduceIte, reduceCtorEq]
  repeat' first | (refine EC_intro (by kernel_rfl) rfl (c92 l hl h0) (by first | exact .inl rfl | exact .inr (.inl rfl)) ?_ ; simp (disch := omega) only [amL, sA, ↓reduceIte])
  refine hK2 _ ?_
  refine awp_ret ?_
  try simp (disch := omega) only [amL, ↓reduceIte]
  skip
end AM.Try
end
/- The program: the bounds of debts. -/
section
namespace AM.Try
open Go AM AM.Duty
open Nat renaming reduceLT → sA, reduceAdd → sB, reduceMul → sC, reduceSub → sD, reduceLeDiff → sE, reduceEqDiff → sF, reduceBEq → sG
open Int renaming reduceAdd → sH, reduceSub → sI, reduceMul → sJ, reduceLT → sK, reduceLE → sL, reduceNeg → sM, reduceToNat → sN, reduceEq → sO
set_option maxHeartbeats 8000000
set_option maxRecDepth 100000
theorem fIdx_ints {esz : Nat → Nat} {ea : Nat → Option Bool} {l : List Int} {k : Nat} (hz : esz 3 = 1) (he : ea 3 = some false) (hl : l.length = 12) (hk : k < 12) : fIdx esz ea (.agg (l.map i64)) (.arr 12 3) (i64 (k : Int)) = some (.pure (i64 (l.getD k 0))) := by
  simp only [fIdx, he, hz]
  rw [if_pos ⟨by omega, by omega, by simp; omega⟩]
  have hd : (l.map i64).drop ((k : Int).toNat * 1) = i64 (l.getD k 0) :: (l.map i64).drop (k + 1) := by
    rw [Int.toNat_natCast, Nat.mul_one, List.drop_eq_getElem_cons (by simp; omega)]
    simp [List.getD, show k < l.length by omega]
  rw [hd]; rfl
def mixL (f : Int → Int → Int) (lo d : List Int) (k : Nat) : List Int := (List.zipWith f lo d).take k ++ lo.drop k
theorem mix_len {f : Int → Int → Int} {lo d : List Int} {k : Nat} (h : lo.length = 12) (hd : d.length = 12) : (mixL f lo d k).length = 12 := by simp [mixL, h, hd]; omega
theorem mix_get {f : Int → Int → Int} {lo d : List Int} {k : Nat} (h : lo.length = 12) (hd : d.length = 12) (hk : k < 12) : (mixL f lo d k).getD k 0 = lo.getD k 0 := by
  simp [mixL, List.getD, List.getElem?_append_right, h, hd, Nat.min_eq_left (Nat.le_of_lt hk)]
theorem mix_set {f : Int → Int → Int} {lo d : List Int} {k : Nat} (h : lo.length = 12) (hd : d.length = 12) (hk : k < 12) : (mixL f lo d k).set k (f (lo.getD k 0) (d.getD k 0)) = mixL f lo d (k + 1) := by
  unfold mixL
  rw [List.set_append_right _ _ (by simp [h, hd]; omega)]
  have e : ((List.zipWith f lo d).take k).length = k := by simp [h, hd]; omega
  rw [e, Nat.sub_self, List.drop_eq_getElem_cons (i := k) (by omega), List.set_cons_zero, List.take_succ_eq_append_getElem (i := k) (by simp [h, hd]; omega)]
  simp [List.getD, h, hd, hk]
theorem mix_0 {f : Int → Int → Int} {lo d : List Int} : mixL f lo d 0 = lo := rfl
theorem mix_12 {f : Int → Int → Int} {lo d : List Int} (h : lo.length = 12) (hd : d.length = 12) : mixL f lo d 12 = List.zipWith f lo d := by
  unfold mixL
  rw [List.take_of_length_le (by simp [h, hd]), List.drop_of_length_le (by omega), List.append_nil]
structure B30 where
  first : Bool
  lo : List Int
  hi : List Int
def bst30 (s : B30) (d : List Int) : B30 := ⟨false, List.zipWith min (if s.first then d else s.lo) d, List.zipWith max (if s.first then d else s.hi) d⟩
def bst30a (a : Acc) (s : B30) (x : List Int) : B30 × Option Code := (bst30 s (pad (playS a x [] true).1), none)
abbrev tm30 (n1 n5 n6 n7 : Nat) : List (Nat × AV) := [(1, .ptr n1 0), (5, .ptr n5 0), (6, .ptr n6 0), (7, .ptr n7 0)]
abbrev F30 (os : Nat → Option AO) (n5 n6 n7 bdL : Nat) (lb : AO) (lo hi : List Int) : Nat → Option AO := upd (upd (upd (upd os bdL (some lb)) n5 (some (.cells (lo.map i64)))) n6 (some (.cells (hi.map i64)))) n7 (some (.cells [bl false]))
theorem set_i64 {l : List Int} {k : Nat} {v : Int} : (l.map i64).set k (i64 v) = (l.set k v).map i64 := List.map_set.symm
theorem closed30 {os : Nat → Option AO} {n1 n5 n6 n7 bdL : Nat} {lo hi : List Int} {k : LoopK} (hcl : (Hp os).closed) (o1 : (os n1).isSome = true) (o5 : (os n5).isSome = true) (o6 : (os n6).isSome = true) (o7 : (os n7).isSome = true) (g0 : n1 < n5) (g1 : n5 < n6) (g2 : n6 < n7) (g3 : n7 < bdL) : (Hp (F30 os n5 n6 n7 bdL (.loop k (tm30 n1 n5 n6 n7)) lo hi)).closed := by
  have hc : ∀ (os' : Nat → Option AO) (l : List Int), (AO.cells (l.map i64)).lives os' := fun os' l => by
    rw [AO.lives_cells]; intro i x hx
    rw [List.getElem?_map, Option.map_eq_some_iff] at hx
    obtain ⟨y, _, rfl⟩ := hx
    exact AV.lives_p _ _
  refine closed_upd (closed_upd (closed_upd (closed_upd hcl ?_) (hc _ _)) (hc _ _)) ?_
  · rw [lives_loop_eq]
    simp (disch := omega) only [livesT_cons, livesT_nil, lives_ptr_eq, upd_ne, o1, o5, o6, o7, and_self]
  · rw [lives_cells_eq]; simp only [livesL_nil, livesL_cons, lives_p_eq, and_self]
theorem lives_ints {os : Nat → Option AO} {l : List Int} : livesL os (l.map i64) := by
  induction l with
  | nil => trivial
  | cons x l ih => exact ⟨AV.lives_p _ _, ih⟩
theorem sub30 {os f : Nat → Option AO} {n5 n6 n7 bdL bd : Nat} {lb : AO} {lo hi : List Int} (g1 : n5 < n6) (g2 : n6 < n7) (g3 : n7 < bdL) (hb : bdL < bd) (h5 : f n5 = some (.cells (lo.map i64))) (h6 : f n6 = some (.cells (hi.map i64))) (h7 : f n7 = some (.cells [bl false])) (hL : f bdL = some lb)
    (h : ∀ q, q ≠ n5 → q ≠ n6 → q ≠ n7 → q ≠ bdL → os q = none ∨ os q = f q) : Sub (F30 os n5 n6 n7 bdL lb lo hi) f := fun q => by
  unfold F30
  by_cases e7 : q = n7
  · subst e7; right; rw [upd_eq, h7]
  · rw [upd_ne e7]
    by_cases e6 : q = n6
    · subst e6; right; rw [upd_eq, h6]
    · rw [upd_ne e6]
      by_cases e5 : q = n5
      · subst e5; right; rw [upd_eq, h5]
      · rw [upd_ne e5]
        by_cases eL : q = bdL
        · subst eL; right; rw [upd_eq, hL]
        · rw [upd_ne eL]; exact h q e5 e6 e7 eL
theorem lo_t {c : Bool} {x y z : List Int} (h : (if c = true then x else y) = z) (hc : c = true) : z = x := by rw [← h, if_pos hc]
theorem lo_f {c : Bool} {x y z : List Int} (h : (if c = true then x else y) = z) (hc : c = false) : z = y := by rw [← h, if_neg (by rw [hc]; simp)]
theorem begin30 {os : Nat → Option AO} {n5 n6 n7 bdL bd : Nat} {lb : AO} {lo hi : List Int} {X Y : Option AO} (g1 : n5 < n6) (g2 : n6 < n7) (g3 : n7 < bdL) (hb : bdL < bd) (h9 : os (bd + 9) = none) :
    Sub (F30 os n5 n6 n7 bdL lb lo hi) (upd (upd (upd (upd (upd (upd os (bd + 9) X) (bd + 9) Y) bdL (some lb)) n5 (some (.cells (lo.map i64)))) n6 (some (.cells (hi.map i64)))) n7 (some (.cells [bl false]))) := by
  refine sub30 g1 g2 g3 hb ?_ ?_ ?_ ?_ fun q e5 e6 e7 eL => ?_
  any_goals (simp (disch := omega) only [upd_ne, upd_eq])
  by_cases e9 : q = bd + 9
  · left; rw [e9]; exact h9
  · right; simp (disch := omega) only [upd_ne]
theorem else30 {os : Nat → Option AO} {n5 n6 n7 bdL bd : Nat} {lb : AO} {lo hi : List Int} {X Y : Option AO} (g1 : n5 < n6) (g2 : n6 < n7) (g3 : n7 < bdL) (hb : bdL < bd) (o5 : os n5 = some (.cells (lo.map i64))) (o6 : os n6 = some (.cells (hi.map i64))) (o7 : os n7 = some (.cells [bl false])) (h9 : os (bd + 9) = none) :
    Sub (F30 os n5 n6 n7 bdL lb lo hi) (upd (upd (upd os (bd + 9) X) (bd + 9) Y) bdL (some lb)) := by
  refine sub30 g1 g2 g3 hb ?_ ?_ ?_ ?_ fun q e5 e6 e7 eL => ?_
  any_goals (simp (disch := omega) only [upd_ne, upd_eq, o5, o6, o7]; done)
  by_cases e9 : q = bd + 9
  · left; rw [e9]; exact h9
  · right; simp (disch := omega) only [upd_ne]
theorem next30 {os : Nat → Option AO} {n5 n6 n7 bdL bd : Nat} {lb : AO} {lo hi lo2 hi2 : List Int} {X : Option AO} (g1 : n5 < n6) (g2 : n6 < n7) (g3 : n7 < bdL) (hb : bdL < bd) (h9 : os (bd + 37) = none) :
    Sub (F30 os n5 n6 n7 bdL lb lo2 hi2) (upd (upd (upd (F30 os n5 n6 n7 bdL lb lo hi) (bd + 37) X) n5 (some (.cells (lo2.map i64)))) n6 (some (.cells (hi2.map i64)))) := by
  refine sub30 g1 g2 g3 hb ?_ ?_ ?_ ?_ fun q e5 e6 e7 eL => ?_
  any_goals (simp (disch := omega) only [F30, upd_ne, upd_eq]; done)
  by_cases e9 : q = bd + 37
  · left; rw [e9]; exact h9
  · right; simp (disch := omega) only [F30, upd_ne]
theorem fin30 {a : Acc} {os : Nat → Option AO} {t : Nat → AV} {n1 n5 n6 n7 bdL : Nat} {kb k : LoopK} {lo hi : List Int} (hkb : kb = { k with state := .busy }) (hcl : (Hp os).closed) (r1 : os n1 = some (.cells (cA a))) (o5 : (os n5).isSome = true) (o6 : (os n6).isSome = true) (o7 : (os n7).isSome = true) (g0 : n1 < n5) (g1 : n5 < n6) (g2 : n6 < n7) (g3 : n7 < bdL) :
    RoundV bdL k (tm30 n1 n5 n6 n7) (fun res os' => res = bl true ∧ ((os' n1 = some (.cells (cA a)) ∧ os' n5 = some (.cells (lo.map i64)) ∧ os' n6 = some (.cells (hi.map i64)) ∧ os' n7 = some (.cells [bl false])) ∧ os' bdL = some (.loop (stK k none) (tm30 n1 n5 n6 n7))) ∧ ∀ n, ¬ ((n = n1 ∨ n = n5 ∨ n = n6 ∨ n = n7) ∨ n = bdL) → os' n = os n) none ⟨t, F30 os n5 n6 n7 bdL (.loop kb (tm30 n1 n5 n6 n7)) lo hi⟩ := by
  have o1 : (os n1).isSome = true := by rw [r1]; rfl
  refine round_mk (F30 os n5 n6 n7 bdL (.loop (stK k none) (tm30 n1 n5 n6 n7)) lo hi) ?_ ?_ (closed30 hcl o1 o5 o6 o7 g0 g1 g2 g3) ⟨rfl, ⟨⟨?_, ?_, ?_, ?_⟩, ?_⟩, fun n hn => ?_⟩
  · simp (disch := omega) only [F30, upd_ne, upd_eq, hkb]
  · refine fun q => .inr ?_
    by_cases eL : q = bdL
    · subst eL; simp (disch := omega) only [F30, upd_ne, upd_eq]
    · rw [upd_ne eL]; simp only [F30]
      by_cases e7 : q = n7
      · subst e7; rw [upd_eq, upd_eq]
      · rw [upd_ne e7, upd_ne e7]
        by_cases e6 : q = n6
        · subst e6; rw [upd_eq, upd_eq]
        · rw [upd_ne e6, upd_ne e6]
          by_cases e5 : q = n5
          · subst e5; rw [upd_eq, upd_eq]
          · rw [upd_ne e5, upd_ne e5, upd_ne eL, upd_ne eL]
  all_goals (simp (disch := omega) only [F30, upd_ne, upd_eq, r1])
theorem rounds30 {a : Acc} (hf : faultS a = 0) {n1 n5 n6 n7 bdL : Nat} (g0 : n1 < n5) (g1 : n5 < n6) (g2 : n6 < n7) (g3 : n7 < bdL) {A B : Code} (hcode : (Go.Proofs.Try.f30.body.bind rangeOf) = some (A, B)) :
    Rounds bdL ⟨79, [21, 22], A, B, .ready, none⟩ (tm30 n1 n5 n6 n7) [70] [] (fun n => n = n1 ∨ n = n5 ∨ n = n6 ∨ n = n7) (fun _ => False) (exA a) (fun _ => True) (fun _ s => s.lo.length = 12 ∧ s.hi.length = 12) (fun (s : B30) os => os n1 = some (.cells (cA a)) ∧ os n5 = some (.cells (s.lo.map i64)) ∧ os n6 = some (.cells (s.hi.map i64)) ∧ os n7 = some (.cells [bl s.first])) (bst30a a) where
  mvF _ h := h.elim
  ready := rfl
  lenp _ := rfl
  psn p hp := by
    simp only [List.mem_cons, List.not_mem_nil, or_false] at hp
    rcases hp with rfl | rfl
    · exact (by decide : 21 < 79)
    · exact (by decide : 22 < 79)
  notF h := by omega
  tmF m hm := by
    by_cases e0 : m = n1
    · exact .inl e0
    · by_cases e1 : m = n5
      · exact .inr (.inl e1)
      · by_cases e2 : m = n6
        · exact .inr (.inr (.inl e2))
        · by_cases e3 : m = n7
          · exact .inr (.inr (.inr e3))
          · simp [AO.clean, AV.clean, AV.clean.cleanL, Ne.symm e0, Ne.symm e1, Ne.symm e2, Ne.symm e3] at hm
  stable s os os' hI he := ⟨(he n1 (.inl rfl)).trans hI.1, (he n5 (.inr (.inl rfl))).trans hI.2.1, (he n6 (.inr (.inr (.inl rfl)))).trans hI.2.2.1, (he n7 (.inr (.inr (.inr rfl)))).trans hI.2.2.2⟩
  foot s os n hI hn := by
    have hc : ∀ (l : List Int) m, (AO.cells (l.map i64)).clean m = true := fun l m => (cleanL_iff m _).2 fun i x hx => by
      rw [List.getElem?_map, Option.map_eq_some_iff] at hx
      obtain ⟨y, _, rfl⟩ := hx
      rfl
    rcases hn with rfl | rfl | rfl | rfl
    · exact ⟨_, hI.1, fun m hm => by rw [clean_cA] at hm; cases hm⟩
    · exact ⟨_, hI.2.1, fun m hm => by rw [hc] at hm; cases hm⟩
    · exact ⟨_, hI.2.2.1, fun m hm => by rw [hc] at hm; cases hm⟩
    · exact ⟨_, hI.2.2.2, fun m hm => by simp [AO.clean, AV.clean, AV.clean.cleanL] at hm⟩
  mono _ _ h := h
  next r s x ho hg h := by
    obtain ⟨_, _, z3, _, _, _⟩ := fault_zero hf
    simp only [inB, Bool.and_eq_true, decide_eq_true_eq] at z3
    have hpl := pad_len (playS_le (a := a) (t := x) (paid := []) (ask := true) (by omega))
    refine ⟨?_, ?_⟩ <;> (simp only [bst30a, bst30]; split <;> simp [hpl, hg.1, hg.2])
  body r s x os bd na ho hg hI hap hF hne ha hl hcl hfree hb l := by
    obtain ⟨o1, o5, o6, o7⟩ := hI
    obtain ⟨h5, h6⟩ := hg
    have hfr0 : ∀ k, os (bd + k) = none := fun k => hfree _ (by omega)
    obtain ⟨_, _, z3, _, _, _⟩ := fault_zero hf
    simp only [inB, Bool.and_eq_true, decide_eq_true_eq] at z3
    have hle := playS_le (a := a) (t := x) (paid := []) (ask := true) (by omega)
    have hpl0 := pad_len hle
    have hpc0 := putCells_all (vs := List.map i64 (pad (playS a x [] true).1)) (l := [i64 0, i64 0, i64 0, i64 0, i64 0, i64 0, i64 0, i64 0, i64 0, i64 0, i64 0, i64 0]) (by rw [List.length_map, hpl0]; rfl)
    obtain ⟨d, hd⟩ : ∃ d, d = pad (playS a x [] true).1 := ⟨_, rfl⟩
    have hex : exA a x = [.agg (d.map i64)] := by rw [hd]
    rw [← hd] at hpl0 hpc0
    rw [hex]
    obtain ⟨fst, lo, hi⟩ := s
    dsimp only at o5 o6 o7 h5 h6
    have htk : List.take 12 (List.map i64 d) = List.map i64 d := List.take_of_length_le (by simp; omega)
    have hpc5 := putCells_all (vs := List.map i64 d) (l := List.map i64 lo) (by simp; omega)
    have hpc6 := putCells_all (vs := List.map i64 d) (l := List.map i64 hi) (by simp; omega)
    generalize hlo : (if fst = true then d else lo) = lo'
    generalize hhi : (if fst = true then d else hi) = hi'
    have h5' : lo'.length = 12 := by rw [← hlo]; split <;> assumption
    have h6' : hi'.length = 12 := by rw [← hhi]; split <;> assumption
    obtain ⟨kb, hkb⟩ : ∃ kb : LoopK, kb = ⟨79, [21, 22], A, B, .busy, none⟩ := ⟨_, rfl⟩
    cases (show some (_, _) = some (A, B) from hcode)
    show AWP _ _ 79 _ ⟨T [(22, .agg (d.map i64)), (21, .own na x.length), (1, .ptr n1 0), (5, .ptr n5 0), (6, .ptr n6 0), (7, .ptr n7 0)], os⟩ _
    refine awp_ops ?_
    simp (disch := omega) only [hl, hfr0, upd_ne, hpl0, hpc0, amL, amT, sA, sB, sF, ↓reduceIte]
    try simp (disch := omega) only [hl, hfr0, upd_ne, hpl0, hpc0, htk, amL, amT, sA, sB, sC, sD, sE, sF, sG, sH, sI, sJ, sK, sL, sM, sN, sO, ↓reduceIte, reduceCtorEq]
    skip
    refine awp_block ?_
    refine awp_seq_k fun K1 hK1 => ?_
    refine awp_seq_k fun K2 hK2 => ?_
    refine awp_ops ?_
    rw [← hkb]
    simp (disch := omega) only [o7, upd_ne, amL, amT, sA, sF, ↓reduceIte]
    refine hK2 _ ?_
    refine awp_cond rfl (fun h => ?_) (fun h => ?_)
    ·first
     | exact Bool.noConfusion h
     |skip
      try simp only [Bool.not_eq_true', decide_eq_true_eq, decide_eq_false_iff_not, Bool.and_eq_true, Bool.not_eq_false', Bool.not_not, decide_not, Bool.not_true, Bool.not_false] at h
      refine awp_any3 [.sto [9] 5] (by kernel_rfl) (by kernel_rfl) ?_
      simp (disch := omega) only [o5, o6, o7, upd_ne, upd_eq, hpl0, h5, h6, htk, hpc5, hpc6, amL, amT, sA, sF, ↓reduceIte]
      have hz9 : (bd + 9 != n5) = true := by simp; omega
      refine ⟨by simp [Cf.ok, nameOf, AV.known, AV.clean, T]; omega, ?_⟩
      all_goals
       skip
       refine hK1 _ ?_
       refine awp_seq_k fun K3 hK3 => ?_
       refine awp_ops ?_
       simp (disch := omega) only [upd_ne, upd_eq, hpl0, htk, amL, amT, sA, sF, ↓reduceIte]
       refine hK3 _ ?_
       refine awp_block ?_
       skip
       refine awp_loop_k (α := Nat) (fun k => ⟨T [(1, .ptr n1 0), (5, .ptr n5 0), (6, .ptr n6 0), (7, .ptr n7 0), (26, .agg (d.map i64)), (27, i64 k)], F30 os n5 n6 n7 bdL (.loop kb (tm30 n1 n5 n6 n7)) (mixL min lo' d k) (mixL max hi' d k)⟩) (fun k => 12 - k) (fun k => k ≤ 12) 0 ?_ ?_ (fun k hx4 K4 hK4 => ?_)
       · simp
       · refine le_os ?_ ?_ ?_ ?_ <;> (try simp (disch := omega) only [upd_ne, upd_eq, amL, sF, ↓reduceIte]); all_goals first | exact closed30 hcl (by rw [o1]; rfl) (by rw [o5]; rfl) (by rw [o6]; rfl) (by rw [o7]; rfl) g0 g1 g2 g3 | (refine ⟨?_, ?_, ?_, ?_⟩ <;> simp (disch := omega) only [upd_ne, upd_eq, o1, Option.isSome_some]; done) | (refine ⟨?_, ?_, ?_, ?_, ?_⟩ <;> simp (disch := omega) only [upd_ne, upd_eq, o1, Option.isSome_some]; done) | exact lives_ints | exact ⟨by rw [o1]; rfl, lives_ints⟩ | (rw [mix_0, mix_0]; have e1 := lo_t hlo (by assumption); have e2 := lo_t hhi (by assumption); rw [e1, e2]; exact begin30 g1 g2 g3 hb (hfr0 9)) | (rw [mix_0, mix_0]; have e0 : fst = false := (by assumption); have e1 := lo_f hlo e0; have e2 := lo_f hhi e0; rw [e1, e2]; exact else30 g1 g2 g3 hb o5 o6 (by rw [o7, e0]) (hfr0 9)) | (omega)
       skip
       refine awp_seq_k fun K5 hK5 => ?_
       refine awp_ops ?_
       simp (disch := omega) only [amL, amT, sA, sF, ↓reduceIte]
       refine hK5 _ ?_
       refine awp_seq_k fun K6 hK6 => ?_
       refine awp_cond rfl (fun h => ?_) (fun h => ?_)
       ·first
        | exact Bool.noConfusion h
        |skip
         try simp only [decide_eq_true_eq] at h
         refine awp_skip ?_
         refine hK6 _ ?_
         refine awp_seq_k fun K7 hK7 => ?_
         refine awp_block ?_
         refine awp_seq_k fun K8 hK8 => ?_
         refine awp_ops ?_
         have hk : k < 12 := by omega
         have hix : fIdx (fun e => (tyOf Go.Proofs.Try.prog e).sz) (fun e => (tyOf Go.Proofs.Try.prog e).agg) (.agg (d.map i64)) (.arr 12 3) (i64 (k : Int)) = some (.pure (i64 (d.getD k 0))) := fIdx_ints (by simp only [ty3]) (by simp only [ty3]; rfl) hpl0 hk
         simp (disch := omega) only [hix, EO_index, amL, amT, sA, sF, ↓reduceIte]
         refine hK8 _ ?_
         refine awp_any3 [.sto [6, 39] 44, .sto [40] 44, .sto [41, 42] 44] (by kernel_rfl) (by kernel_rfl) ?_
         have hs5 : (mixL min lo' d k).set k (minF (lo'.getD k 0) [d.getD k 0]) = mixL min lo' d (k + 1) := mix_set (f := min) h5' hpl0 hk
         have hs6 : (mixL max hi' d k).set k (if hi'.getD k 0 < d.getD k 0 then d.getD k 0 else hi'.getD k 0) = mixL max hi' d (k + 1) := by
           rw [← mix_set (f := max) h6' hpl0 hk]; congr 1; rw [Int.max_def]; split <;> split <;> omega
         have m5 := mix_len (f := min) (k := k) h5' hpl0
         have m6 := mix_len (f := max) (k := k) h6' hpl0
         have dk5 := drop_i64 (ds := mixL min lo' d k) (len := 12) (k := k) hk (by omega)
         have dk6 := drop_i64 (ds := mixL max hi' d k) (len := 12) (k := k) hk (by omega)
         rw [List.take_of_length_le (by omega), mix_get h5' hpl0 hk] at dk5
         rw [List.take_of_length_le (by omega), mix_get h6' hpl0 hk] at dk6
         simp (disch := omega) only [dk5, hfr0, upd_ne, upd_eq, amL, amT, sA, sB, sE, sF, sG, sH, ↓reduceIte, reduceCtorEq]
         repeat' first | (refine EC_intro (by kernel_rfl) rfl (c71 [_, _] (by simp) (by simp)) (by first | exact .inl rfl | exact .inr (.inl rfl)) ?_ ; simp (disch := omega) only [m5, m6, dk6, set_i64, upd_ne, upd_eq, amL, amT, sA, sE, sF, sH, ↓reduceIte])
         refine ⟨by simp [Cf.ok, nameOf, AV.known, AV.clean, T]; omega, ?_⟩
         all_goals
          skip
          refine hK7 _ ?_
          refine awp_ops ?_
          simp (disch := omega) only [amL, amT, sA, sF, ↓reduceIte]
          refine hK4 (k+1) _ ?_ ?_ (le_os ?_ ?_ ?_ ?_)
          all_goals (try simp (disch := omega) only [upd_ne, upd_eq, amL, sE, sF, ↓reduceIte])
          all_goals first | omega | exact closed30 hcl (by rw [o1]; rfl) (by rw [o5]; rfl) (by rw [o6]; rfl) (by rw [o7]; rfl) g0 g1 g2 g3 | exact lives_ints | exact ⟨by rw [o1]; rfl, lives_ints⟩ | (rw [hs5, hs6]; exact next30 g1 g2 g3 hb (hfr0 37)) | (omega)
       ·first
        | exact Bool.noConfusion h
        |skip
         try simp only [decide_eq_false_iff_not] at h
         refine awp_exit ?_
         try simp (disch := omega) only [o5, o6, o7, hl, hfr0, upd_ne, upd_eq, hpl0, h5, h6, htk, hpc5, hpc6, viewL_ints, EO_index, RoundQ_normal, RoundQ_ret, amL, amT, sA, sB, sC, sD, sE, sF, sG, sH, sI, sJ, sK, sL, sM, sN, sO, ↓reduceIte, reduceCtorEq]
         rw [thenQ_exit, thenQ_exit, blockQ_hit, blockQ_normal, RoundQ_normal]
         have e12 : k = 12 := by omega
         subst e12
         rw [mix_12 h5' hpl0, mix_12 h6' hpl0]
         have eb : bst30a a ⟨fst, lo, hi⟩ x = (⟨false, List.zipWith min lo' d, List.zipWith max hi' d⟩, none) := by rw [bst30a, ← hd, bst30]; dsimp only; rw [hlo, hhi]
         rw [eb]
         exact fin30 (by rw [hkb]) hcl o1 (by rw [o5]; rfl) (by rw [o6]; rfl) (by rw [o7]; rfl) g0 g1 g2 g3
    ·first
     | exact Bool.noConfusion h
     |skip
      try simp only [Bool.not_eq_true', decide_eq_true_eq, decide_eq_false_iff_not, Bool.and_eq_true, Bool.not_eq_false', Bool.not_not, decide_not, Bool.not_true, Bool.not_false] at h
      refine awp_skip ?_
      refine hK1 _ ?_
      refine awp_seq_k fun K9 hK9 => ?_
      refine awp_ops ?_
      simp (disch := omega) only [upd_ne, upd_eq, hpl0, htk, amL, amT, sA, sF, ↓reduceIte]
      refine hK9 _ ?_
      refine awp_block ?_
      skip
      refine awp_loop_k (α := Nat) (fun k => ⟨T [(1, .ptr n1 0), (5, .ptr n5 0), (6, .ptr n6 0), (7, .ptr n7 0), (26, .agg (d.map i64)), (27, i64 k)], F30 os n5 n6 n7 bdL (.loop kb (tm30 n1 n5 n6 n7)) (mixL min lo' d k) (mixL max hi' d k)⟩) (fun k => 12 - k) (fun k => k ≤ 12) 0 ?_ ?_ (fun k hx10 K10 hK10 => ?_)
      · simp
      · refine le_os ?_ ?_ ?_ ?_ <;> (try simp (disch := omega) only [upd_ne, upd_eq, amL, sF, ↓reduceIte]); all_goals first | exact closed30 hcl (by rw [o1]; rfl) (by rw [o5]; rfl) (by rw [o6]; rfl) (by rw [o7]; rfl) g0 g1 g2 g3 | (refine ⟨?_, ?_, ?_, ?_⟩ <;> simp (disch := omega) only [upd_ne, upd_eq, o1, Option.isSome_some]; done) | (refine ⟨?_, ?_, ?_, ?_, ?_⟩ <;> simp (disch := omega) only [upd_ne, upd_eq, o1, Option.isSome_some]; done) | exact lives_ints | exact ⟨by rw [o1]; rfl, lives_ints⟩ | (rw [mix_0, mix_0]; have e1 := lo_t hlo (by assumption); have e2 := lo_t hhi (by assumption); rw [e1, e2]; exact begin30 g1 g2 g3 hb (hfr0 9)) | (rw [mix_0, mix_0]; have e0 : fst = false := (by assumption); have e1 := lo_f hlo e0; have e2 := lo_f hhi e0; rw [e1, e2]; exact else30 g1 g2 g3 hb o5 o6 (by rw [o7, e0]) (hfr0 9)) | (omega)
      skip
      refine awp_seq_k fun K11 hK11 => ?_
      refine awp_ops ?_
      simp (disch := omega) only [amL, amT, sA, sF, ↓reduceIte]
      refine hK11 _ ?_
      refine awp_seq_k fun K12 hK12 => ?_
      refine awp_cond rfl (fun h => ?_) (fun h => ?_)
      ·first
       | exact Bool.noConfusion h
       |skip
        try simp only [decide_eq_true_eq] at h
        refine awp_skip ?_
        refine hK12 _ ?_
        refine awp_seq_k fun K13 hK13 => ?_
        refine awp_block ?_
        refine awp_seq_k fun K14 hK14 => ?_
        refine awp_ops ?_
        have hk : k < 12 := by omega
        have hix : fIdx (fun e => (tyOf Go.Proofs.Try.prog e).sz) (fun e => (tyOf Go.Proofs.Try.prog e).agg) (.agg (d.map i64)) (.arr 12 3) (i64 (k : Int)) = some (.pure (i64 (d.getD k 0))) := fIdx_ints (by simp only [ty3]) (by simp only [ty3]; rfl) hpl0 hk
        simp (disch := omega) only [hix, EO_index, amL, amT, sA, sF, ↓reduceIte]
        refine hK14 _ ?_
        refine awp_any3 [.sto [6, 39] 44, .sto [40] 44, .sto [41, 42] 44] (by kernel_rfl) (by kernel_rfl) ?_
        have hs5 : (mixL min lo' d k).set k (minF (lo'.getD k 0) [d.getD k 0]) = mixL min lo' d (k + 1) := mix_set (f := min) h5' hpl0 hk
        have hs6 : (mixL max hi' d k).set k (if hi'.getD k 0 < d.getD k 0 then d.getD k 0 else hi'.getD k 0) = mixL max hi' d (k + 1) := by
          rw [← mix_set (f := max) h6' hpl0 hk]; congr 1; rw [Int.max_def]; split <;> split <;> omega
        have m5 := mix_len (f := min) (k := k) h5' hpl0
        have m6 := mix_len (f := max) (k := k) h6' hpl0
        have dk5 := drop_i64 (ds := mixL min lo' d k) (len := 12) (k := k) hk (by omega)
        have dk6 := drop_i64 (ds := mixL max hi' d k) (len := 12) (k := k) hk (by omega)
        rw [List.take_of_length_le (by omega), mix_get h5' hpl0 hk] at dk5
        rw [List.take_of_length_le (by omega), mix_get h6' hpl0 hk] at dk6
        simp (disch := omega) only [dk5, hfr0, upd_ne, upd_eq, amL, amT, sA, sB, sE, sF, sG, sH, ↓reduceIte, reduceCtorEq]
        repeat' first | (refine EC_intro (by kernel_rfl) rfl (c71 [_, _] (by simp) (by simp)) (by first | exact .inl rfl | exact .inr (.inl rfl)) ?_ ; simp (disch := omega) only [m5, m6, dk6, set_i64, upd_ne, upd_eq, amL, amT, sA, sE, sF, sH, ↓reduceIte])
        refine ⟨by simp [Cf.ok, nameOf, AV.known, AV.clean, T]; omega, ?_⟩
        all_goals
         skip
         refine hK13 _ ?_
         refine awp_ops ?_
         simp (disch := omega) only [amL, amT, sA, sF, ↓reduceIte]
         refine hK10 (k+1) _ ?_ ?_ (le_os ?_ ?_ ?_ ?_)
         all_goals (try simp (disch := omega) only [upd_ne, upd_eq, amL, sE, sF, ↓reduceIte])
         all_goals first | omega | exact closed30 hcl (by rw [o1]; rfl) (by rw [o5]; rfl) (by rw [o6]; rfl) (by rw [o7]; rfl) g0 g1 g2 g3 | exact lives_ints | exact ⟨by rw [o1]; rfl, lives_ints⟩ | (rw [hs5, hs6]; exact next30 g1 g2 g3 hb (hfr0 37)) | (omega)
      ·first
       | exact Bool.noConfusion h
       |skip
        try simp only [decide_eq_false_iff_not] at h
        refine awp_exit ?_
        try simp (disch := omega) only [o5, o6, o7, hl, hfr0, upd_ne, upd_eq, hpl0, h5, h6, htk, hpc5, hpc6, viewL_ints, EO_index, RoundQ_normal, RoundQ_ret, amL, amT, sA, sB, sC, sD, sE, sF, sG, sH, sI, sJ, sK, sL, sM, sN, sO, ↓reduceIte, reduceCtorEq]
        rw [thenQ_exit, thenQ_exit, blockQ_hit, blockQ_normal, RoundQ_normal]
        have e12 : k = 12 := by omega
        subst e12
        rw [mix_12 h5' hpl0, mix_12 h6' hpl0]
        have eb : bst30a a ⟨fst, lo, hi⟩ x = (⟨false, List.zipWith min lo' d, List.zipWith max hi' d⟩, none) := by rw [bst30a, ← hd, bst30]; dsimp only; rw [hlo, hhi]
        rw [eb]
        exact fin30 (by rw [hkb]) hcl o1 (by rw [o5]; rfl) (by rw [o6]; rfl) (by rw [o7]; rfl) g0 g1 g2 g3
end AM.Try
end
/- The program: the bounds of debts, told. -/
section
namespace AM.Try
open Go AM AM.Duty
open Nat renaming reduceLT → sA, reduceAdd → sB, reduceMul → sC, reduceSub → sD, reduceLeDiff → sE, reduceEqDiff → sF, reduceBEq → sG
open Int renaming reduceAdd → sH, reduceSub → sI, reduceMul → sJ, reduceLT → sK, reduceLE → sL, reduceNeg → sM, reduceToNat → sN, reduceEq → sO
set_option maxHeartbeats 8000000
set_option maxRecDepth 100000
theorem dayP_in {ask : Bool} {rate day : Int} (hr : 0 ≤ rate ∧ rate ≤ 100) : ∀ (es : List Entry) (t : List Int) (w v : Int × Int) (b c : Int), (∀ e ∈ es, -100000 ≤ e.pence ∧ e.pence ≤ 100000) → (∀ u ∈ t, 0 ≤ u ∧ u ≤ 50) → 0 ≤ b → 0 ≤ c → dayP ask rate day es t w = some v → inP b c w → inP (b + 100000 * (es.length : Int)) (c + 50 * (es.length : Int)) v
  | [], t, w, v, b, c, _, _, hb, hc, h, hw => by
    cases t <;> (simp only [dayP, Option.some.injEq] at h; subst h; simpa using hw)
  | e :: es, [], w, v, b, c, _, _, hb, hc, h, hw => by
    simp only [dayP, Option.some.injEq] at h; subst h
    exact inP_mono hw (by omega) (by omega)
  | e :: es, u :: t, w, v, b, c, he, hu, hb, hc, h, hw => by
    simp only [dayP] at h
    split at h
    · have hu1 := hu u (by simp)
      have h1 := step_inP (ask := ask) (day := day) hw (worth_bound hu1.1 hu1.2 hr.1 hr.2) hu1 (he e (by simp))
      have h2 := dayP_in hr es t _ v _ _ (fun x hx => he x (by simp [hx])) (fun x hx => hu x (by simp [hx])) (by omega) (by omega) h h1
      refine inP_mono h2 ?_ ?_ <;> simp only [List.length_cons] <;> omega
    · cases h
theorem unit_mem {t : List Int} {lo hi : Int} (h : ∀ j, j < t.length → lo ≤ t.getD j 0 ∧ t.getD j 0 ≤ hi) : ∀ u ∈ t, lo ≤ u ∧ u ≤ hi := fun u hu => by
  obtain ⟨j, hj, rfl⟩ := List.getElem_of_mem hu
  have := h j hj
  simpa [List.getD, hj] using this
theorem playF_in {a : Acc} {t paid : List Int} {ask : Bool} (hf : FitP a t) : ∀ (c day : Nat) (w : Int × Int), c + day ≤ 12 → inP (bnd day) (600 * (day : Int)) w → ∀ n ∈ (playF a t paid ask c day w).1, -100000000000 ≤ n ∧ n ≤ 100000000000
  | 0, day, w, hc, hw, n, hn => by simp [playF] at hn
  | c + 1, day, w, hc, hw, n, hn => by
    rw [playF_succ] at hn
    have hb := bnd_lo day
    cases hd : dayP ask (rateOn day a.rates 0) day a.entries t (intP a w) with
    | none => rw [hd] at hn; cases hn
    | some v =>
      rw [hd] at hn
      have hl := hf.lenE
      have he : ∀ e ∈ a.entries, -100000 ≤ e.pence ∧ e.pence ≤ 100000 := fun e he => by
        obtain ⟨j, hj, rfl⟩ := List.getElem_of_mem he
        have := (hf.ent j hj).2.1
        simpa [getE, List.getD, hj] using this
      have h1 := dayP_in (hf.rate day) a.entries t _ v _ _ he (unit_mem hf.unit) (by omega) (by omega) hd (int_in hf.int0 hf.int1 hw)
      have h2 := pay_in (paid := paid) (day := day) hf.purse0 hf.purse1 h1
      have h3 : inP (bnd (day + 1)) (600 * ((day + 1 : Nat) : Int)) (payP a paid day v) := inP_mono h2 (by simp only [bnd]; omega) (by omega)
      simp only [List.mem_cons] at hn
      rcases hn with rfl | hn
      · have := bnd_hi (d := day + 1) (by omega)
        unfold inP at h3; omega
      · exact playF_in hf c (day + 1) _ (by omega) h3 n hn
theorem playS_in {a : Acc} {t paid : List Int} {ask : Bool} (hf : FitP a t) : ∀ n ∈ (playS a t paid ask).1, -100000000000 ≤ n ∧ n ≤ 100000000000 :=
  playF_in hf _ 0 (0, 0) (by have := hf.last1; omega) (by simp [inP, bnd])
def small (l : List Int) : Prop := l.length = 12 ∧ ∀ n ∈ l, -100000000000 ≤ n ∧ n ≤ 100000000000
theorem small_pad {l : List Int} (hl : l.length ≤ 12) (h : ∀ n ∈ l, -100000000000 ≤ n ∧ n ≤ 100000000000) : small (pad l) := by
  refine ⟨pad_len hl, fun n hn => ?_⟩
  simp only [pad, List.mem_append] at hn
  rcases hn with hn | hn
  · exact h n hn
  · have := List.eq_of_mem_replicate hn; omega
theorem small_in {l : List Int} (h : small l) : l.all inR = true := by
  rw [List.all_eq_true]
  intro n hn
  have := h.2 n hn
  simp only [inR, Bool.and_eq_true, decide_eq_true_eq]; omega
theorem small_zip {f : Int → Int → Int} (hf : ∀ x y, f x y = x ∨ f x y = y) {l m : List Int} (hl : small l) (hm : small m) : small (List.zipWith f l m) := by
  refine ⟨by simp [hl.1, hm.1], fun n hn => ?_⟩
  obtain ⟨i, hi, rfl⟩ := List.getElem_of_mem hn
  simp only [List.getElem_zipWith]
  simp only [List.length_zipWith] at hi
  rcases hf (l[i]'(by omega)) (m[i]'(by omega)) with h | h <;> rw [h]
  · exact hl.2 _ (List.getElem_mem _)
  · exact hm.2 _ (List.getElem_mem _)
def fold30 (a : Acc) (s : B30) (l : List (List Int)) : B30 := l.foldl (fun s x => bst30 s (pad (playS a x [] true).1)) s
theorem small_fold {a : Acc} : ∀ (l : List (List Int)) (s : B30), (∀ x ∈ l, small (pad (playS a x [] true).1)) → small s.lo → small s.hi → small (fold30 a s l).lo ∧ small (fold30 a s l).hi
  | [], s, _, h1, h2 => ⟨h1, h2⟩
  | x :: l, s, h, h1, h2 => by
    have hx := h x (by simp)
    refine small_fold l (bst30 s (pad (playS a x [] true).1)) (fun y hy => h y (by simp [hy])) ?_ ?_ <;> (simp only [bst30]; refine small_zip (fun x y => ?_) ?_ hx)
    · rw [Int.min_def]; split <;> simp
    · split <;> assumption
    · rw [Int.max_def]; split <;> simp
    · split <;> assumption
theorem first_fold {a : Acc} : ∀ (l : List (List Int)) (s : B30), (fold30 a s l).first = (s.first && l.isEmpty)
  | [], s => by simp [fold30]
  | x :: l, s => by
    show (fold30 a (bst30 s _) l).first = _
    rw [first_fold l]; simp [bst30]
theorem allS_30 {a : Acc} : ∀ (l : List (List Int)) (s : B30), (allS (fun (s : B30 × Option Code) x => (bst30a a s.1 x, (bst30a a s.1 x).2.isNone)) (s, none) l).1 = (fold30 a s l, none)
  | [], s => rfl
  | x :: l, s => by
    show (if (bst30a a s x).2.isNone = true then allS _ (bst30a a s x) l else _).1 = _
    rw [if_pos (show (bst30a a s x).2.isNone = true from rfl)]
    exact allS_30 l (bst30a a s x).1
theorem truth_fit {a : Acc} (hf : faultS a = 0) {x : List Int} (hx : x ∈ truthsL a) : FitP a x := by
  obtain ⟨y, e, hy⟩ := lists_listed _ _ _ (List.mem_filter.1 hx).1
  rw [List.nil_append] at e
  subst e
  exact fitP_of hf hy
def z12 : List Int := [0, 0, 0, 0, 0, 0, 0, 0, 0, 0, 0, 0]
def boundsL (a : Acc) : List (Int × Int) := (List.range (a.last + 1).toNat).map fun k => (((fold30 a ⟨true, z12, z12⟩ (truthsL a)).lo).getD k 0, ((fold30 a ⟨true, z12, z12⟩ (truthsL a)).hi).getD k 0)
def boundsA (a : Acc) : AV :=
  if faultS a = 0 then if (truthsL a).isEmpty = true then .tup [.p (.val (.slice none 0 0)), i64 9] else .tup [.p (.sl ((boundsL a).map fun p => [iv p.1, iv p.2])), i64 0]
  else .tup [.p (.val (.slice none 0 0)), i64 (faultS a)]
theorem boundsA_isP (a : Acc) : (boundsA a).isP = true := by
  unfold boundsA; split
  · split <;> rfl
  · rfl
theorem ints95 : IntsEq Go.Proofs.Try.prog 95 12 := intsEq_of (by kernel_rfl)
theorem gen_os {K : St → Prop} {t : Nat → AV} {os : Nat → Option AO} {n : Nat} {X : Option AO} (h : ∀ os3, os3 = upd os n X → K ⟨t, os3⟩) : K ⟨t, upd os n X⟩ := h _ rfl
def fullE (lo hi : List Int) (n : Nat) : List (List PV) := (List.range n).map fun k => [iv (lo.getD k 0), iv (hi.getD k 0)]
def fillE (lo hi : List Int) (n k : Nat) : List (List PV) := (fullE lo hi n).take k ++ List.replicate (n - k) [iv 0, iv 0]
theorem EO_mk45 {r : RB} {N : Nat} {s : St} {K : St → Prop} {d : Nat} {ty : TypeId} {pos : String} {after : Array Edge} {g : Option (Nat × Bool)} {l c : Operand} : EO Go.Proofs.Try.prog r N ⟨some d, .makeSlice 45 l c, ty, pos, after, g⟩ s K = EOp r.b N (some d) s K (fMk 2 16 [iv 0, iv 0] (r.b + d) (ev s.t l) (ev s.t c)) :=
  EO_mk (e := 54) (z := [.int .i64 0, .int .i64 0]) (by rw [ty45]) (by rw [ty54]) (by rw [ty54]) (by rw [ty54]) (by decide) rfl (by decide) (by rw [ty54]; rfl)
theorem full_len {lo hi : List Int} {n : Nat} : (fullE lo hi n).length = n := by simp [fullE]
theorem fill_len {lo hi : List Int} {n k : Nat} (h : k ≤ n) : (fillE lo hi n k).length = n := by simp [fillE, full_len]; omega
theorem fill_get {lo hi : List Int} {n k : Nat} (h : k < n) : (fillE lo hi n k).getD k [] = [iv 0, iv 0] := by
  have e : ((fullE lo hi n).take k).length = k := by rw [List.length_take, full_len]; omega
  simp only [fillE, List.getD]
  rw [List.getElem?_append_right (by omega), e, Nat.sub_self]
  simp [show 0 < n - k by omega]
theorem fill_set {lo hi : List Int} {n k : Nat} (h : k < n) : (fillE lo hi n k).set k [iv (lo.getD k 0), iv (hi.getD k 0)] = fillE lo hi n (k + 1) := by
  have e : ((fullE lo hi n).take k).length = k := by rw [List.length_take, full_len]; omega
  unfold fillE
  rw [List.set_append_right _ _ (by omega), e, Nat.sub_self, show n - k = (n - (k + 1)) + 1 by omega, List.replicate_succ, List.set_cons_zero, List.take_succ_eq_append_getElem (by rw [full_len]; exact h)]
  simp [fullE]
theorem fill_get2 {lo hi : List Int} {n k : Nat} (h : k < n) : (fillE lo hi n (k + 1)).getD k [] = [iv (lo.getD k 0), iv (hi.getD k 0)] := by
  rw [← fill_set h, List.getD, List.getElem?_set_self (by rw [fill_len (by omega)]; exact h)]; rfl
theorem fill_set2 {lo hi : List Int} {n k : Nat} (h : k < n) (e : lo = hi) : (fillE lo hi n (k + 1)).set k [iv (lo.getD k 0), iv (lo.getD k 0)] = fillE lo hi n (k + 1) := by
  subst e
  rw [← fill_set h, List.set_set]
theorem fill_0 {lo hi : List Int} {n : Nat} : fillE lo hi n 0 = List.replicate n [iv 0, iv 0] := by simp [fillE]
theorem fill_n {lo hi : List Int} {n : Nat} : fillE lo hi n n = fullE lo hi n := by
  unfold fillE; rw [List.take_of_length_le (by rw [full_len]; exact Nat.le_refl _)]; simp
theorem intsOf_map : ∀ l : List Int, intsOf (l.map i64) = some l
  | [] => rfl
  | x :: l => by show (intsOf (l.map i64)).map (x :: ·) = _; rw [intsOf_map l]; rfl
theorem c30 (a : Acc) (hl1 : a.rates.length < 1000000) (hl2 : a.entries.length < 1000000) (hin : ∀ e ∈ a.entries, inR e.lo = true ∧ inR e.hi = true) : PCall Go.Proofs.Try.prog 30 [avA a] (boundsA a) := by
  refine pcalld_mk (v := [70]) (q := []) (N := 79) (rs := [.tmp 2, .tmp 3]) Go.Proofs.Try.func30 rfl rfl rfl rfl (boundsA_isP a) ?_
  obtain ⟨A, B, hcode⟩ : ∃ A B, (Go.Proofs.Try.f30.body.bind rangeOf) = some (A, B) := ⟨_, _, rfl⟩
  refine awpd_seq_p fun K1 hK1 => ?_
  refine awp_ops ?_
  simp (disch := omega) only [amL, sA, ↓reduceIte]
  refine hK1 _ ?_
  refine awpd_seq_p fun K2 hK2 => ?_
  refine awp_seq_k fun K3 hK3 => ?_
  refine awp_ops ?_
  simp (disch := omega) only [amL, amT, sA, sB, sF, sG, ↓reduceIte]
  repeat' first | (refine EC_intro (by kernel_rfl) rfl (c25 a hl1 hl2 hin) (by first | exact .inl rfl | exact .inr (.inl rfl)) ?_ ; simp (disch := omega) only [amL, sA, ↓reduceIte])
  refine hK3 _ ?_
  refine awp_seq_k fun K4 hK4 => ?_
  refine awp_ops ?_
  simp (disch := omega) only [ne_eq, amL, amT, sA, ↓reduceIte]
  refine hK4 _ ?_
  refine awp_cond rfl (fun h => ?_) (fun h => ?_)
  ·first
   | exact Bool.noConfusion h
   |skip
    try simp only [Bool.not_eq_true', decide_eq_false_iff_not, decide_not] at h
    refine awp_seq_k fun K5 hK5 => ?_
    refine awp_ops ?_
    simp (disch := omega) only [amL, sA, sF, ↓reduceIte]
    refine hK5 _ ?_
    refine awp_ret ?_
    try simp (disch := omega) only [amL, sF, ↓reduceIte]
    first | (rw [boundsA, if_neg (by assumption)]; done) | (have hb0 : b0 = true := (by assumption); rw [boundsA, if_pos hf, if_pos (by rw [hb0] at hfi; simpa using hfi.symm)]; done) | (have ek : k = (a.last + 1).toNat := (by omega); have hb0 : b0 = false := (by assumption); rw [ek, fill_n, if_pos (by rw [full_len]; exact Nat.le_refl _), List.take_of_length_le (by rw [full_len]; exact Nat.le_refl _), boundsA, if_pos hf, if_neg (by rw [hb0] at hfi; simpa using hfi), hbl, List.map_map]; rfl) | (omega)
  ·first
   | exact Bool.noConfusion h
   |skip
    try simp only [decide_eq_true_eq, Bool.not_eq_false', decide_not] at h
    refine awp_skip ?_
    refine hK2 _ ?_
    refine awpd_seq_p fun K6 hK6 => ?_
    refine awp_ops ?_
    simp (disch := omega) only [amL, amT, sA, sB, sF, ↓reduceIte]
    refine hK6 _ ?_
    refine awpd_seq_p fun K7 hK7 => ?_
    refine awp_ops ?_
    simp (disch := omega) only [amL, amT, sA, sF, ↓reduceIte]
    refine hK7 _ ?_
    refine awpd_seq_k fun K8 hK8 => ?_
    refine awpd_seq_p fun K9 hK9 => ?_
    refine awp_ops ?_
    simp (disch := omega) only [amL, amT, sA, sB, sF, ↓reduceIte]
    refine EV_intro2 [(1, .ptr 1 0), (5, .ptr 5 0), (6, .ptr 6 0), (7, .ptr 7 0)] (by decide) (c70 (bd := 79)) (T_get_none rfl) (by decide) (fun res os2 hR hcl2 hlv2 => ?_)
    obtain ⟨rfl, rfl⟩ := hR
    simp (disch := omega) only [amL, sB, sF, ↓reduceIte]
    refine hK9 _ ?_
    refine awpd_block ?_
    have hf : faultS a = 0 := by omega
    have hRd := rounds30 hf (n1 := 1) (n5 := 5) (n6 := 6) (n7 := 7) (bdL := 81) (by decide) (by decide) (by decide) (by decide) hcode
    have hc := c90 (rr := 0) hRd.yields rfl hf (nA := 80) (s := (⟨true, z12, z12⟩, none)) (bd := 82) (os := O [(81, .loop (stK ⟨79, [21, 22], A, B, .ready, none⟩ none) (tm30 1 5 6 7)), (80, .cells (cA a)), (7, .cells [bl true]), (7, .cells [bl false]), (6, .cells (z12.map i64)), (5, .cells (z12.map i64)), (1, .cells (cA a))]) (by decide) rfl ⟨⟨rfl, rfl⟩, rfl⟩ ⟨⟨rfl, rfl, rfl, rfl⟩, rfl⟩ Apart.none (fun _ _ => trivial)
    cases (show some (_, _) = some (A, B) from hcode)
    refine awpd_rangeFunc (bd := 81) (tm := tm30 1 5 6 7) rfl (T_get_none rfl) (by decide) rfl (by kernel_rfl) (fun i => leT_get (by simp (disch := omega) only [amL, sF, ↓reduceIte]) i) (tm_get (by simp (disch := omega) only [amL, sF, ↓reduceIte])) hc (fun res os2 hR hcl2 => ?_)
    obtain ⟨rfl, hI2, hfr2⟩ := hR
    rw [allS_30] at hI2
    have hsm := small_fold (a := a) (truthsL a) ⟨true, z12, z12⟩ (fun x hx => small_pad (playS_le (truth_fit hf hx).last1) (playS_in (truth_fit hf hx))) ⟨rfl, by decide⟩ ⟨rfl, by decide⟩
    have hfi := first_fold (a := a) (truthsL a) ⟨true, z12, z12⟩
    have hbl : boundsL a = (List.range (a.last + 1).toNat).map fun k => (((fold30 a ⟨true, z12, z12⟩ (truthsL a)).lo).getD k 0, ((fold30 a ⟨true, z12, z12⟩ (truthsL a)).hi).getD k 0) := rfl
    generalize hb : fold30 a ⟨true, z12, z12⟩ (truthsL a) = b at hI2 hsm hfi hbl
    obtain ⟨b0, lo, hi⟩ := b
    obtain ⟨⟨q1, q5, q6, q7⟩, q8⟩ := hI2
    dsimp only at q5 q6 q7 hsm hfi hbl
    have q51 : os2 51 = none := hfr2 51 (by decide)
    refine ⟨_, q8, by simp [], ?_⟩
    show blockQ 0 _ .normal _
    simp only [blockQ_normal, thenQ_normal]
    refine gen_os fun os3 h3 => ?_
    have hcl3 : (Hp os3).closed := by
      rw [h3]; refine closed_upd hcl2 ?_
      rw [lives_loop_eq]; simp (disch := omega) only [livesT_cons, livesT_nil, lives_ptr_eq, upd_ne, q1, q5, q6, q7, Option.isSome_some, and_self]
    have r1 : os3 1 = some (.cells (cA a)) := by rw [h3, upd_ne (by decide), q1]
    have r5 : os3 5 = some (.cells (lo.map i64)) := by rw [h3, upd_ne (by decide), q5]
    have r6 : os3 6 = some (.cells (hi.map i64)) := by rw [h3, upd_ne (by decide), q6]
    have r7 : os3 7 = some (.cells [bl b0]) := by rw [h3, upd_ne (by decide), q7]
    have r51 : os3 51 = none := by rw [h3, upd_ne (by decide), q51]
    clear h3
    refine hK8 _ ?_
    refine awpd_seq_p fun K10 hK10 => ?_
    refine awp_seq_k fun K11 hK11 => ?_
    refine awp_ops ?_
    simp (disch := omega) only [r7, amL, amT, sA, sF, ↓reduceIte]
    refine hK11 _ ?_
    refine awp_cond rfl (fun h => ?_) (fun h => ?_)
    ·first
     | exact Bool.noConfusion h
     |skip
      try simp only [Bool.not_eq_true', decide_eq_true_eq, decide_eq_false_iff_not, Bool.and_eq_true, Bool.not_eq_false', Bool.not_not, decide_not, Bool.not_true, Bool.not_false] at h
      refine awp_seq_k fun K12 hK12 => ?_
      refine awp_ops ?_
      simp (disch := omega) only [amL, sA]
      refine hK12 _ ?_
      refine awp_ret ?_
      try simp (disch := omega) only [amL, sF, ↓reduceIte]
      first | (rw [boundsA, if_neg (by assumption)]; done) | (have hb0 : b0 = true := (by assumption); rw [boundsA, if_pos hf, if_pos (by rw [hb0] at hfi; simpa using hfi.symm)]; done) | (have ek : k = (a.last + 1).toNat := (by omega); have hb0 : b0 = false := (by assumption); rw [ek, fill_n, if_pos (by rw [full_len]; exact Nat.le_refl _), List.take_of_length_le (by rw [full_len]; exact Nat.le_refl _), boundsA, if_pos hf, if_neg (by rw [hb0] at hfi; simpa using hfi), hbl, List.map_map]; rfl) | (omega)
    ·first
     | exact Bool.noConfusion h
     |skip
      try simp only [Bool.not_eq_true', decide_eq_true_eq, decide_eq_false_iff_not, Bool.and_eq_true, Bool.not_eq_false', Bool.not_not, decide_not, Bool.not_true, Bool.not_false] at h
      refine awp_skip ?_
      refine hK10 _ ?_
      refine awpd_seq_p fun K13 hK13 => ?_
      refine awp_ops ?_
      obtain ⟨_, _, z3, _, _, _⟩ := fault_zero hf
      simp only [inB, Bool.and_eq_true, decide_eq_true_eq] at z3
      simp (disch := omega) only [r1, r51, EO_mk45, fMk_int, amL, amT, sA, sF, sH, ↓reduceIte, reduceCtorEq]
      refine hK13 _ ?_
      refine awpd_seq_p fun K14 hK14 => ?_
      refine awp_seq_k fun K15 hK15 => ?_
      refine awp_ops ?_
      simp (disch := omega) only [amL, amT, sA, ↓reduceIte]
      refine hK15 _ ?_
      refine awp_block ?_
      skip
      refine awp_loop_k (α := Nat) (fun k => ⟨T [(1, .ptr 1 0), (5, .ptr 5 0), (6, .ptr 6 0), (7, .ptr 7 0), (12, .own 51 (a.last + 1).toNat), (53, i64 ((a.last + 1).toNat : Int)), (54, i64 k)], upd os3 51 (some (.arr 2 (fillE lo hi (a.last + 1).toNat k)))⟩) (fun k => (a.last + 1).toNat - k) (fun k => k ≤ (a.last + 1).toNat) 0 ?_ ?_ (fun k hx16 K16 hK16 => ?_)
      · simp
      · refine le_os ?_ ?_ ?_ ?_ <;> (try simp (disch := omega) only [upd_ne, amL, sF, ↓reduceIte]); all_goals first | (rw [fill_0]; exact Sub.refl _) | (rw [r1, r5, r6, r7]; exact ⟨rfl, rfl, rfl, rfl⟩) | exact closed_upd hcl3 (by rw [lives_arr_eq]; trivial) | (omega)
      skip
      refine awp_seq_k fun K17 hK17 => ?_
      refine awp_ops ?_
      simp (disch := omega) only [amL, amT, sA, sF, ↓reduceIte]
      refine hK17 _ ?_
      refine awp_seq_k fun K18 hK18 => ?_
      refine awp_cond rfl (fun h => ?_) (fun h => ?_)
      ·first
       | exact Bool.noConfusion h
       |skip
        try simp only [decide_eq_true_eq] at h
        refine awp_skip ?_
        refine hK18 _ ?_
        refine awp_seq_k fun K19 hK19 => ?_
        refine awp_block ?_
        refine awp_seq_k fun K20 hK20 => ?_
        refine awp_ops ?_
        simp (disch := omega) only [amL, sA, sF, ↓reduceIte]
        refine hK20 _ ?_
        refine awp_seq_k fun K21 hK21 => ?_
        refine awp_any2 (by kernel_rfl) (by kernel_rfl) ?_
        have hk : k < (a.last + 1).toNat := by omega
        obtain ⟨_, _, z3, _, _, _⟩ := fault_zero hf
        simp only [inB, Bool.and_eq_true, decide_eq_true_eq] at z3
        have hl5 := hsm.1.1
        have hl6 := hsm.2.1
        have hfl := fill_len (lo := lo) (hi := hi) (n := (a.last + 1).toNat) (k := k) (by omega)
        have hfg := fill_get (lo := lo) (hi := hi) hk
        have dk5 := drop_i64 (ds := lo) (len := 12) (k := k) (by omega) (by omega)
        have dk6 := drop_i64 (ds := hi) (len := 12) (k := k) (by omega) (by omega)
        rw [List.take_of_length_le (by omega)] at dk5 dk6
        have tk5 : List.take 12 (List.map i64 lo) = List.map i64 lo := List.take_of_length_le (by simp; omega)
        have tk6 : List.take 12 (List.map i64 hi) = List.map i64 hi := List.take_of_length_le (by simp; omega)
        simp (disch := omega) only [r5, r6, dk5, dk6, hfl, hfg, upd_ne, amL, amT, sA, sB, sE, sF, sH, ↓reduceIte]
        refine hK21 _ ?_
        refine awp_seq_k fun K22 hK22 => ?_
        refine awp_ops ?_
        have hcmp : aggEq Go.Proofs.Try.prog .eql 95 (some lo) (some hi) = some (.pure (bl (decide (lo = hi)))) := aggEq_eql (by rw [hl5]; exact ints95) (by omega) (small_in hsm.1) (small_in hsm.2)
        simp (disch := omega) only [r5, r6, intsOf_map, tk5, tk6, hcmp, fill_set, upd_ne, amL, amT, sA, sF, ↓reduceIte]
        refine hK22 _ ?_
        refine awp_cond rfl (fun h => ?_) (fun h => ?_)
        ·first
         | exact Bool.noConfusion h
         |skip
          try simp only [decide_eq_true_eq] at h
          refine awp_ops ?_
          have hfg2 := fill_get2 (lo := lo) (hi := hi) hk
          simp (disch := omega) only [r5, dk5, fill_len, hfg2, upd_ne, amL, amT, sA, sB, sF, sH, ↓reduceIte, reduceCtorEq]
          refine hK19 _ ?_
          refine awp_ops ?_
          simp (disch := omega) only [amL, amT, sA, sF, ↓reduceIte]
          refine hK16 (k+1) _ ?_ ?_ (le_os ?_ ?_ ?_ ?_)
          all_goals (try simp (disch := omega) only [upd_ne, amL, sF, ↓reduceIte])
          all_goals first | omega | (rw [upd_upd]; exact Sub.refl _) | (rw [upd_upd, fill_set (by omega)]; exact Sub.refl _) | (rw [upd_upd, upd_upd, fill_set2 (by omega) (by assumption)]; exact Sub.refl _) | (rw [r1, r5, r6, r7]; exact ⟨rfl, rfl, rfl, rfl⟩) | exact closed_upd hcl3 (by rw [lives_arr_eq]; trivial) | (omega)
        ·first
         | exact Bool.noConfusion h
         |skip
          try simp only [decide_eq_false_iff_not] at h
          refine awp_skip ?_
          refine hK19 _ ?_
          refine awp_ops ?_
          simp (disch := omega) only [amL, amT, sA, sF, ↓reduceIte]
          refine hK16 (k+1) _ ?_ ?_ (le_os ?_ ?_ ?_ ?_)
          all_goals (try simp (disch := omega) only [upd_ne, amL, sF, ↓reduceIte])
          all_goals first | omega | (rw [upd_upd]; exact Sub.refl _) | (rw [upd_upd, fill_set (by omega)]; exact Sub.refl _) | (rw [upd_upd, upd_upd, fill_set2 (by omega) (by assumption)]; exact Sub.refl _) | (rw [r1, r5, r6, r7]; exact ⟨rfl, rfl, rfl, rfl⟩) | exact closed_upd hcl3 (by rw [lives_arr_eq]; trivial) | (omega)
      ·first
       | exact Bool.noConfusion h
       |skip
        try simp only [decide_eq_false_iff_not] at h
        refine awp_exit ?_
        refine hK14 _ ?_
        refine awpd_seq_p fun K23 hK23 => ?_
        refine awp_ops ?_
        simp (disch := omega) only [amL, sA, sF, ↓reduceIte]
        refine hK23 _ ?_
        refine awpd_of_awp ?_
        refine awp_ret ?_
        try simp (disch := omega) only [amL, sF, ↓reduceIte]
        first | (rw [boundsA, if_neg (by assumption)]; done) | (have hb0 : b0 = true := (by assumption); rw [boundsA, if_pos hf, if_pos (by rw [hb0] at hfi; simpa using hfi.symm)]; done) | (have ek : k = (a.last + 1).toNat := (by omega); have hb0 : b0 = false := (by assumption); rw [ek, fill_n, if_pos (by rw [full_len]; exact Nat.le_refl _), List.take_of_length_le (by rw [full_len]; exact Nat.le_refl _), boundsA, if_pos hf, if_neg (by rw [hb0] at hfi; simpa using hfi), hbl, List.map_map]; rfl) | (omega)
end AM.Try
end
/- The program: all truths, the last one first. -/
section
namespace AM.Try
open Go AM AM.Duty
open Nat renaming reduceLT → sA, reduceAdd → sB, reduceMul → sC, reduceSub → sD, reduceLeDiff → sE, reduceEqDiff → sF, reduceBEq → sG
open Int renaming reduceAdd → sH, reduceSub → sI, reduceMul → sJ, reduceLT → sK, reduceLE → sL, reduceNeg → sM, reduceToNat → sN, reduceEq → sO
set_option maxHeartbeats 8000000
set_option maxRecDepth 100000
theorem listsN_len {f : Int → List (List Int)} {m : Nat} : ∀ (c : Nat) (n : Int), (∀ k, (f k).length = m) → (listsN f c n).length = c * m
  | 0, n, h => by simp [listsN]
  | c + 1, n, h => by
    rw [show listsN f (c + 1) n = f n ++ listsN f c (n + 1) from rfl, List.length_append, h, listsN_len c (n + 1) h, Nat.add_mul]; omega
def many (l : List Entry) : Nat := l.foldr (fun e n => (e.hi - e.lo + 1).toNat * n) 1
theorem lists_len : ∀ (es : List Entry) (p : List Int), (listsP es p).length = many es
  | [], p => rfl
  | e :: es, p => by
    show (listsN _ _ _).length = (e.hi - e.lo + 1).toNat * many es
    exact listsN_len _ _ fun k => lists_len es _
theorem sizes_many : ∀ (es : List Entry) (b : Int), (∀ e ∈ es, e.lo ≤ e.hi + 1) → es.foldl (fun n e => n * (e.hi - e.lo + 1)) b = b * (many es : Int)
  | [], b, _ => by simp [many]
  | e :: es, b, h => by
    have h1 := h e (by simp)
    have e1 : ((e.hi - e.lo + 1).toNat : Int) = e.hi - e.lo + 1 := Int.toNat_of_nonneg (by omega)
    show es.foldl _ (b * (e.hi - e.lo + 1)) = b * (((e.hi - e.lo + 1).toNat * many es : Nat) : Int)
    rw [sizes_many es _ (fun x hx => h x (by simp [hx])), Int.natCast_mul, e1, Int.mul_assoc]
theorem many_le {a : Acc} (hf : faultS a = 0) : many a.entries ≤ 1000 := by
  obtain ⟨z1, z2, z3, z4, z5, z6⟩ := fault_zero hf
  have h := sizes_many a.entries 1 (fun e he => by
    have h1 := List.all_eq_true.1 z5 e he
    have h2 := isEntry_small h1
    omega)
  unfold sizes at z6
  rw [h] at z6
  omega
theorem allS_75 : ∀ (l s : List (List Int)), (allS (fun (s : List (List Int) × Option Code) x => (bst75 s.1 x, (bst75 s.1 x).2.isNone)) (s, none) l).1 = (s ++ l, none)
  | [], s => by simp [allS]
  | x :: l, s => by
    show (if (bst75 s x).2.isNone = true then allS _ (bst75 s x) l else _).1 = _
    rw [if_pos (show (bst75 s x).2.isNone = true from rfl)]
    have := allS_75 l (bst75 s x).1
    rw [show (bst75 s x).1 = s ++ [x] from rfl, List.append_assoc] at this
    exact this
theorem c75 (a : Acc) (hf : faultS a = 0) : PCall Go.Proofs.Try.prog 75 [avA a] (.p (.sl ((truthsL a).reverse.map encL))) := by
  refine pcalld_mk (v := [70, 95]) (q := []) (N := 16) (rs := [.cell 2 50]) Go.Proofs.Try.func75 rfl rfl rfl rfl rfl ?_
  obtain ⟨A, B, hcode⟩ : ∃ A B, (Go.Proofs.Try.f75.body.bind rangeOf) = some (A, B) := ⟨_, _, rfl⟩
  have hRd := rounds75 (a := a) (n2 := 2) (nW := 16) (bdL := 19) (by decide) (by decide) hcode
  refine awpd_seq_p fun K1 hK1 => ?_
  refine awp_ops ?_
  simp (disch := omega) only [amL, amT, sA, sF, ↓reduceIte]
  refine hK1 _ ?_
  refine awpd_seq_k fun K2 hK2 => ?_
  refine awpd_seq_p fun K3 hK3 => ?_
  refine awp_adoptC' 16 1 2 0 (by decide) rfl rfl rfl ?_
  refine awp_ops ?_
  simp (disch := omega) only [amL, amT, sA, sB, sF, sG, ↓reduceIte]
  refine EV_intro2 [(2, .ptr 2 0)] (by decide) (c70 (bd := 17)) (T_get_none rfl) (by decide) (fun res os2 hR hcl2 hlv2 => ?_)
  obtain ⟨rfl, rfl⟩ := hR
  simp (disch := omega) only [amL, sB, sF, ↓reduceIte]
  refine hK3 _ ?_
  refine awpd_block ?_
  have hap0 : Apart (fun n => (n = 2 ∨ n = 16) ∨ n = 19) (fun n => n = 16) (O [(19, .loop (stK ⟨16, [6, 7], A, B, .ready, none⟩ none) [(2, .ptr 2 0)]), (18, .cells (cA a)), (2, .cells [.own 16 0]), (16, .arr 1 []), (2, .cells [.p (.val (.slice none 0 0))]), (1, .cells (cA a))]) := fun n o hn ho m hm => by
    subst hm
    simp only [O_cons, O_nil] at ho
    rw [if_neg (by omega)] at ho
    split at ho
    · cases ho; rfl
    · rw [if_neg (by omega), if_neg (by omega), if_neg (by omega)] at ho
      split at ho
      · cases ho; rfl
      · cases ho
  have hc := c90 (rr := 0) hRd.yields rfl hf (nA := 18) (s := ([], none)) (bd := 20) (os := O [(19, .loop (stK ⟨16, [6, 7], A, B, .ready, none⟩ none) [(2, .ptr 2 0)]), (18, .cells (cA a)), (2, .cells [.own 16 0]), (16, .arr 1 []), (2, .cells [.p (.val (.slice none 0 0))]), (1, .cells (cA a))]) (by decide) rfl ⟨by simp [lists_len, many_le hf], rfl⟩ ⟨⟨rfl, rfl⟩, rfl⟩ hap0 (fun x hx => by have := truth_fit hf hx; have h1 := this.len; have h2 := this.lenE; omega)
  cases (show some (_, _) = some (A, B) from hcode)
  refine awpd_rangeFuncM (mv := fun n => n = 16) (fun _ _ => .inr (Nat.zero_le _)) (by decide) (bd := 19) (tm := [(2, .ptr 2 0)]) rfl (T_get_none rfl) (by decide) rfl (by kernel_rfl) (fun i => leT_get (by simp (disch := omega) only [amL, sF, ↓reduceIte]) i) (tm_get (by simp (disch := omega) only [amL, sF, ↓reduceIte])) (staysT_get ⟨stays_ptr (by decide), trivial⟩) hc (fun res os2 hR hcl2 => ?_)
  obtain ⟨rfl, hI2, hfr2⟩ := hR
  rw [allS_75, List.nil_append] at hI2
  obtain ⟨⟨q2, qW⟩, q8⟩ := hI2
  dsimp only at q2 qW
  refine ⟨_, q8, by simp [], ?_⟩
  show blockQ 0 _ .normal _
  simp only [blockQ_normal, thenQ_normal]
  refine gen_os fun os3 h3 => ?_
  have hcl3 : (Hp os3).closed := by
    rw [h3]; refine closed_upd hcl2 ?_
    rw [lives_loop_eq]; simp (disch := omega) only [livesT_cons, livesT_nil, lives_ptr_eq, upd_ne, q2, Option.isSome_some, and_self]
  have r2 : os3 2 = some (.cells [.own 16 (truthsL a).length]) := by rw [h3, upd_ne (by decide), q2]
  have rW : os3 16 = some (.arr 1 ((truthsL a).map encL)) := by rw [h3, upd_ne (by decide), qW]
  have hfr3 : ∀ n, 20 ≤ n → os3 n = none := fun n hn => by rw [h3, upd_ne (by omega)]; exact (hfr2 n (by omega)).trans (T_get_none (b := 20) (by rfl) n hn)
  clear h3
  refine hK2 _ ?_
  refine awpd_seq_p fun K4 hK4 => ?_
  refine awp_ops ?_
  simp (disch := omega) only [r2, amL, amT, sA, sG, ↓reduceIte]
  have ht1000 : (truthsL a).length ≤ 1000 := Nat.le_trans (List.length_filter_le _ _) (by rw [lists_len]; exact many_le hf)
  have hsg : (truthsL a).map encL = ((truthsL a).map fun x => (PV.sl (x.map encI))).map sg := by rw [List.map_map]; rfl
  rw [hsg] at rW
  have h95 := c95 (ps := (truthsL a).map fun x => (PV.sl (x.map encI))) (nA := 16) (os := os3) (bd := 20) (by rw [List.length_map]; omega) rW
  rw [List.length_map] at h95
  refine EV_intro2 [(2, .ptr 2 0)] (by decide) h95 hfr3 (by decide) (fun res os4 hR hcl4 hlv4 => ?_)
  obtain ⟨rfl, rfl⟩ := hR
  simp (disch := omega) only [r2, upd_ne, amL, sF, ↓reduceIte]
  refine hK4 _ ?_
  refine awpd_seq_p fun K5 hK5 => ?_
  refine awp_ops ?_
  simp (disch := omega) only [r2, upd_ne, amL, amT, sF, ↓reduceIte]
  refine hK5 _ ?_
  refine awpd_of_awp ?_
  refine awp_ret ?_
  try simp (disch := omega) only [upd_ne, upd_eq, amL, amT, sF, ↓reduceIte]
  rw [if_pos (by simp), List.take_of_length_le (by simp), ← List.map_reverse, List.map_map]; rfl
end AM.Try
end
/- The program: whether a list is a plan that keeps the bond; a copy, as one's own. -/
section
namespace AM.Try
open Go AM AM.Duty
open Nat renaming reduceLT → sA, reduceAdd → sB, reduceMul → sC, reduceSub → sD, reduceLeDiff → sE, reduceEqDiff → sF, reduceBEq → sG
open Int renaming reduceAdd → sH, reduceSub → sI, reduceMul → sJ, reduceLT → sK, reduceLE → sL, reduceNeg → sM, reduceToNat → sN, reduceEq → sO
set_option maxHeartbeats 8000000
set_option maxRecDepth 100000
def provesA (a : Acc) (days : List Int) (most : Int) : Bool :=
  if faultS a = 0 ∧ (days.length : Int) ≤ most ∧ (allS (stepDay a.last) (-1) days).2 = true then !(truthsL a).isEmpty && (truthsL a).reverse.all (holds1 a days) else false
theorem truths_len {a : Acc} (hf : faultS a = 0) : (truthsL a).length ≤ 1000 := Nat.le_trans (List.length_filter_le _ _) (by rw [lists_len]; exact many_le hf)
theorem truths_rev {a : Acc} (hf : faultS a = 0) : ∀ t ∈ (truthsL a).reverse, FitP a t := fun _ ht => truth_fit hf (List.mem_reverse.1 ht)
theorem c77r (a : Acc) (days : List Int) (hf : faultS a = 0) (hd : days.length < 1000000) : PCall Go.Proofs.Try.prog 77 [avA a, .p (.sl ((truthsL a).reverse.map encL)), isl days] (bl ((truthsL a).reverse.all (holds1 a days))) :=
  c77 a (truthsL a).reverse days (by rw [List.length_reverse]; have := truths_len hf; omega) (truths_rev hf) hd
theorem c38 (a : Acc) (days : List Int) (most : Int) (hl1 : a.rates.length < 1000000) (hl2 : a.entries.length < 1000000) (hin : ∀ e ∈ a.entries, inR e.lo = true ∧ inR e.hi = true) (hd : days.length < 1000000) : PCall Go.Proofs.Try.prog 38 [avA a, isl days, i64 most] (bl (provesA a days most)) := by
  refine pcall_mk (v := []) (q := []) (N := 34) (rs := [.tmp 6]) Go.Proofs.Try.func38 rfl rfl rfl rfl rfl ?_
  refine awp_seq_k fun K1 hK1 => ?_
  refine awp_ops ?_
  simp (disch := omega) only [amL, sA, sB, ↓reduceIte]
  refine hK1 _ ?_
  refine awp_seq_k fun K2 hK2 => ?_
  refine awp_seq_k fun K3 hK3 => ?_
  refine awp_ops ?_
  simp (disch := omega) only [amL, amT, sA, sB, sF, ↓reduceIte]
  repeat' first | (refine EG_dec (fun h => ?_) (fun h => ?_) <;> simp (disch := omega) only [h, amL, amT, sA, sB, sF, ↓reduceIte, reduceCtorEq]) | (refine EG_cases (fun h => ?_) (fun h => ?_) <;> simp (disch := omega) only [h, ne_eq, amL, amT, sA, sB, sC, sD, sE, sF, sG, sH, sI, sJ, sK, sL, sM, sN, sO, ↓reduceIte, reduceCtorEq]) | (refine EC_intro (by kernel_rfl) rfl (c25 a hl1 hl2 hin) (by first | exact .inl rfl | exact .inr (.inl rfl)) ?_ ; simp (disch := omega) only [ne_eq, amL, amT, sA, ↓reduceIte]) | (refine EC_intro (by kernel_rfl) rfl (c78 a days hd) (by first | exact .inl rfl | exact .inr (.inl rfl)) ?_ ; simp (disch := omega) only [amL, sA, sF, sM, ↓reduceIte])
  all_goals
   skip
   refine hK3 _ ?_
   refine awp_cond rfl (fun h => ?_) (fun h => ?_)
   ·first
    | exact Bool.noConfusion h
    |skip
     try simp only [Bool.not_eq_true'] at h
     refine awp_seq_k fun K4 hK4 => ?_
     refine awp_ops ?_
     simp (disch := omega) only [amL, sA, sM]
     refine hK4 _ ?_
     refine awp_ret ?_
     try simp (disch := omega) only [amL, sM, ↓reduceIte]
     first
       | (rw [provesA, if_neg (by omega)]; done)
       | (have hz : (allS (stepDay a.last) (-1) days).2 = false := (by assumption); rw [provesA, if_neg (fun hh => by have h9 := hh.2.2; rw [hz] at h9; cases h9)]; done)
       | (have ht : (allS (stepDay a.last) (-1) days).2 = true := by assumption
          rw [provesA, if_pos ⟨hf, by omega, ht⟩]
          have he : (truthsL a).isEmpty = false := by
            cases hl : truthsL a with
            | nil => rw [hl] at h; simp at h
            | cons x l => rfl
          rw [he]; rfl)
       | (have ht : (allS (stepDay a.last) (-1) days).2 = true := by assumption
          rw [provesA, if_pos ⟨hf, by omega, ht⟩]
          have he : (truthsL a).isEmpty = true := by
            cases hl : truthsL a with
            | nil => rfl
            | cons x l =>
              exfalso; rw [hl] at h
              have e9 : (x :: l).reverse.length = l.length + 1 := by simp
              omega
          rw [he]; rfl)
       | (omega)
   ·first
    | exact Bool.noConfusion h
    |skip
     try simp only [Bool.not_eq_false'] at h
     refine awp_skip ?_
     refine hK2 _ ?_
     refine awp_seq_k fun K5 hK5 => ?_
     refine awp_ops ?_
     have hf : faultS a = 0 := by omega
     simp (disch := omega) only [amL, amT, sA, sB, sF, sM, ↓reduceIte]
     repeat' first | (refine EC_intro (by kernel_rfl) rfl (c75 a (by assumption)) (by first | exact .inl rfl | exact .inr (.inl rfl)) ?_ ; simp (disch := omega) only [amL, sA, sM, ↓reduceIte])
     refine hK5 _ ?_
     refine awp_seq_k fun K6 hK6 => ?_
     refine awp_ops ?_
     simp (disch := omega) only [amL, amT, sA, sM, ↓reduceIte]
     repeat' first | (refine EG_dec (fun h => ?_) (fun h => ?_) <;> simp (disch := omega) only [h, amL, amT, sA, sB, sF, sM, ↓reduceIte, reduceCtorEq]) | (refine EG_cases (fun h => ?_) (fun h => ?_) <;> simp (disch := omega) only [h, ne_eq, amL, amT, sA, sB, sC, sD, sE, sF, sG, sH, sI, sJ, sK, sL, sM, sN, sO, ↓reduceIte, reduceCtorEq]) | (refine EC_intro (by kernel_rfl) rfl (c77r a days (by assumption) hd) (by first | exact .inl rfl | exact .inr (.inl rfl)) ?_ ; simp (disch := omega) only [amL, sA, sF, sM, ↓reduceIte])
     all_goals
      skip
      refine hK6 _ ?_
      refine awp_ret ?_
      try simp (disch := omega) only [amL, sM, ↓reduceIte]
      first
        | (rw [provesA, if_neg (by omega)]; done)
        | (have hz : (allS (stepDay a.last) (-1) days).2 = false := (by assumption); rw [provesA, if_neg (fun hh => by have h9 := hh.2.2; rw [hz] at h9; cases h9)]; done)
        | (have ht : (allS (stepDay a.last) (-1) days).2 = true := by assumption
           rw [provesA, if_pos ⟨hf, by omega, ht⟩]
           have he : (truthsL a).isEmpty = false := by
             cases hl : truthsL a with
             | nil => rw [hl] at h; simp at h
             | cons x l => rfl
           rw [he]; rfl)
        | (have ht : (allS (stepDay a.last) (-1) days).2 = true := by assumption
           rw [provesA, if_pos ⟨hf, by omega, ht⟩]
           have he : (truthsL a).isEmpty = true := by
             cases hl : truthsL a with
             | nil => rfl
             | cons x l =>
               exfalso; rw [hl] at h
               have e9 : (x :: l).reverse.length = l.length + 1 := by simp
               omega
           rw [he]; rfl)
        | (omega)
theorem viewN_own {os : Nat → Option AO} {n len k : Nat} {es : List (List PV)} (h : os n = some (.arr k es)) (h1 : len = es.length) (h2 : (es.all fun e => e.all PV.isVal) = true) : viewN k os (.own n len) = some es := by
  unfold viewN; simp only [h]; rw [if_pos ⟨trivial, h1, h2⟩]
theorem n60 (l : List Int) (hl : l.length < 1000000) : NCall Go.Proofs.Try.prog 60 [isl l] 1 (l.map encI) := by
  refine ncall_mk (v := []) (q := []) (N := 8) (i := 2) Go.Proofs.Try.func60 rfl rfl rfl rfl ?_
  refine awp_seq_k fun K1 hK1 => ?_
  refine awp_ops ?_
  simp (disch := omega) only [amL, sA]
  refine hK1 _ ?_
  refine awp_seq_k fun K2 hK2 => ?_
  refine awp_seq_k fun K3 hK3 => ?_
  refine awp_move_nil (by decide) (by decide) (by rw [ty26]) rfl (fun b hb => ?_)
  simp (disch := omega) only [amL, ↓reduceIte, reduceCtorEq]
  refine hK3 _ ?_
  refine awp_cond rfl (fun h => ?_) (fun h => ?_)
  ·first
   | exact Bool.noConfusion h
   |skip
    try simp only [Bool.not_eq_true', decide_eq_true_eq, decide_eq_false_iff_not, Bool.and_eq_true, Bool.not_eq_false', Bool.not_not, decide_not, Bool.not_true, Bool.not_false] at h
    refine awp_seq_k fun K4 hK4 => ?_
    refine awp_ops ?_
    simp (disch := omega) only [amL, sA]
    refine hK4 _ ?_
    refine awp_ret ?_
    try simp (disch := omega) only [RetN_ret, amL, ↓reduceIte]
    first | (have e : l = [] := (by have := hb h; simpa using this); subst e; rfl) | (rw [viewN_own rfl (by simp) (ints_isVal l)]; done) | (omega)
  ·first
   | exact Bool.noConfusion h
   |skip
    try simp only [Bool.not_eq_true', decide_eq_true_eq, decide_eq_false_iff_not, Bool.and_eq_true, Bool.not_eq_false', Bool.not_not, decide_not, Bool.not_true, Bool.not_false] at h
    refine awp_skip ?_
    refine hK2 _ ?_
    refine awp_seq_k fun K5 hK5 => ?_
    refine awp_ops ?_
    simp (disch := omega) only [isl_all, amL, amT, sA, sF, ↓reduceIte, reduceCtorEq]
    refine hK5 _ ?_
    refine awp_ret ?_
    try simp (disch := omega) only [RetN_ret, amL, ↓reduceIte]
    first | (have e : l = [] := (by have := hb h; simpa using this); subst e; rfl) | (rw [viewN_own rfl (by simp) (ints_isVal l)]; done) | (omega)
theorem NCall.of_nil {P : Program} {f : FuncId} {args : List AV} {k : Nat} {es : List (List PV)} (i : Nat) (hi : args[i]? = some (.p (.val (.slice none 0 0)))) (h : NCall P f (args.set i (.p (.sl []))) k es) : NCall P f args k es := by
  intro θ M w vs hM hsz hrel
  refine h θ M w vs hM (by simpa using hsz) fun j x hj => ?_
  rw [List.getElem?_set] at hj
  split at hj
  · rename_i hij
    split at hj
    · cases hj
      subst hij
      have hv := hrel i _ hi
      generalize vs.getD i undef = v at hv ⊢
      cases hv with
      | p _ _ hp => cases hp with
        | val _ _ => exact .p _ _ .nil
    · cases hj
  · exact hrel j x hj
end AM.Try
end
/- The abstract machine, part 44: regions that draw their order, where the last operation comes last in each (a call that shares objects, say). -/
section
namespace AM
open Go
section
variable {P : Program} {r : RB} {N : Nat} {ops : List Oper}
theorem EL_append {all : List Oper} {K : St → Prop} : ∀ {l1 l2 : List Oper} {s : St}, EL P r N all (l1 ++ l2) s K = EL P r N all l1 s (fun s' => EL P r N all l2 s' K)
  | [], _, _ => rfl
  | o :: l1, l2, s => by
    simp only [List.cons_append, EL]
    have e : (fun s' => EL P r N all (l1 ++ l2) s' K) = fun s' => EL P r N all l1 s' (fun s' => EL P r N all l2 s' K) := funext fun s' => EL_append
    rw [e]
    split
    · rfl
    · split
      · rfl
      · split
        · rw [EL_append]
        · rw [EL_append]
        · rfl
def EX (P : Program) (r : RB) (N : Nat) (ops : List Oper) (K2 K : St → Prop) (rem : List Nat) (s : St) : Prop :=
  (∃ l, rem = l ++ [ops.length - 1] ∧ EL P r N ops (l.filterMap (ops[·]?)) s K2) ∨ (rem = [] ∧ K s)
theorem last_split {pre post : List Nat} {i m : Nat} {l : List Nat} (h : pre ++ i :: post = l ++ [m]) (hne : i ≠ m) : ∃ post', post = post' ++ [m] ∧ l = pre ++ i :: post' := by
  rcases List.eq_nil_or_concat post with e | ⟨q, x, e⟩
  · subst e
    have h2 := congrArg List.getLast? h
    simp at h2; exact absurd h2 hne
  · subst e
    rw [List.concat_eq_append] at h ⊢
    have h3 : (pre ++ i :: q) ++ [x] = l ++ [m] := by rw [← h]; simp
    obtain ⟨h4, h5⟩ := List.append_inj' h3 rfl
    simp at h5
    subst h5
    exact ⟨q, rfl, h4.symm⟩
theorem any_text4 {D : (Nat → AV) → Prop} {b : Nat → Nat} (hb : Masks ops b) (hn0 : 0 < ops.length) (hlast : ∀ k, k < ops.length - 1 → (b (ops.length - 1)).testBit k = true)
    (hsw : ∀ (i j : Nat) (oi oj : Oper) (rest : List Nat), j < i → i < ops.length - 1 → ops[i]? = some oi → ops[j]? = some oj → (b i).testBit j = false → (∀ k ∈ rest, j < k ∧ k ≠ i ∧ k < ops.length - 1 ∧ (k < i → (b i).testBit k = false)) → Steps P r N ops oj ∧ SwapAt P r N ops D oj oi (rest.filterMap (ops[·]?)))
    {K K2 : St → Prop} (hK : ∀ s' : St, K2 s' → D s'.t ∧ EL P r N ops ([ops.length - 1].filterMap (ops[·]?)) s' K) {Q : Exit → Act → World → Prop} :
    ∀ (fuel : Nat) (listed : Array Bool) (s : St) (B : Nat) (S : Nat → Prop) (θ : Nat → Loc) (M : Nat → Prop) (w : World) (a : Act), SRel N B S θ M w s a → listed.size = ops.length → ClosedL ops listed → (remI ops.length listed).length ≤ fuel →
      EX P r N ops K2 K (remI ops.length listed) s → (∀ s' a' w', K s' → Fin r N B S θ M w a s' a' w' → Q .normal a' w') → wpAnyIn (Wd r.rd) 0 P .any ops.toArray Q fuel listed a w := by
  intro fuel
  have hready : ∀ {listed : Array Bool} {x : Nat}, x ∈ Region.ready .any ops.toArray listed → x ∈ remI ops.length listed := fun h => ((mem_ready rfl).1 h).1
  have hdone : ∀ {rem : List Nat} {s : St}, rem = [] → EX P r N ops K2 K rem s → K s := fun hr h => by
    rcases h with ⟨l, e, _⟩ | ⟨_, h⟩
    · rw [hr] at e; simp at e
    · exact h
  induction fuel with
  | zero =>
    intro listed s B S θ M w a hs hsz hcl hf hE hQ
    have hnil : remI ops.length listed = [] := List.length_eq_zero_iff.1 (by omega)
    refine ⟨List.eq_nil_iff_forall_not_mem.2 fun x hx => ?_, ?_⟩
    · have := hready hx
      rw [hnil] at this; cases this
    · exact hQ s a w (hdone hnil hE) ⟨AdvM.refl hs, rfl⟩
  | succ fuel ih =>
    intro listed s B S θ M w a hs hsz hcl hf hE hQ
    refine ⟨fun hr => ?_, fun i hi => ?_⟩
    · have hnil : remI ops.length listed = [] := by
        cases hrem : remI ops.length listed with
        | nil => rfl
        | cons x l =>
          exfalso
          have hx : x ∈ remI ops.length listed := by rw [hrem]; simp
          have hsort : (remI ops.length listed).Pairwise (· < ·) := (List.pairwise_lt_range).filter _
          rw [hrem, List.pairwise_cons] at hsort
          obtain ⟨hxn, hxl⟩ := mem_remI.1 hx
          have : x ∈ Region.ready .any ops.toArray listed := (mem_ready rfl).2 ⟨hx, ops[x], by simp [hxn], fun e he hbe => by
            have hlt := hb.lt x ops[x] (by simp [hxn]) e he hbe
            cases hl : listed.getD e.on false with
            | true => rfl
            | false =>
              exfalso
              have hen : e.on < ops.length := Nat.lt_trans hlt hxn
              have : e.on ∈ remI ops.length listed := mem_remI.2 ⟨hen, by
                rw [Array.getD_eq_getD_getElem?] at hl ⊢
                have hsz' : e.on < listed.size := by omega
                simp only [Array.getElem?_eq_getElem hsz', Option.getD_some] at hl ⊢
                exact hl⟩
              rw [hrem] at this
              rcases List.mem_cons.1 this with h | h
              · omega
              · have := hsort.1 _ h; omega⟩
          rw [hr] at this; cases this
      exact hQ s a w (hdone hnil hE) ⟨AdvM.refl hs, rfl⟩
    · obtain ⟨hrem, o, ho, hafter⟩ := (mem_ready rfl).1 hi
      obtain ⟨pre, post, he, hpre, hset⟩ := remI_split hsz hrem
      have hsort : (pre ++ i :: post).Pairwise (· < ·) := by rw [← he]; exact (List.pairwise_lt_range).filter _
      have hlt : ∀ k ∈ pre ++ i :: post, k < ops.length := fun k hk => (mem_remI.1 (show k ∈ remI ops.length listed by rw [he]; exact hk)).1
      have hnl : ∀ k ∈ pre ++ i :: post, listed.getD k true = false := fun k hk => (mem_remI.1 (show k ∈ remI ops.length listed by rw [he]; exact hk)).2
      have hfree : ∀ k ∈ pre ++ post, k < i → (b i).testBit k = false := fun k hk hki => by
        cases ht : (b i).testBit k with
        | false => rfl
        | true =>
          have h1 := masks_listed hb hcl i o ho hafter hki ht
          have h2 := hnl k (by
            rcases List.mem_append.1 hk with h | h
            · simp [h]
            · simp [h])
          rw [getD_tf h2] at h1; cases h1
      have next : ∀ s1, EX P r N ops K2 K (pre ++ post) s1 → ∀ a' w', Fin r N B S θ M w a s1 a' w' → wpAnyIn (Wd r.rd) 0 P .any ops.toArray Q fuel (listed.setIfInBounds i true) a' w' := by
        intro s1 hE1 a' w' hF
        obtain ⟨θ', M', hs', hcomp⟩ := hF.comp
        refine ih _ s1 B S θ' M' w' a' hs' (by simpa using hsz) ?_ ?_ ?_ (fun s' a'' w'' hK hF' => hQ s' a'' w'' hK (hcomp _ _ _ hF'))
        · intro k ok hk hl e hek hbe
          have hmono : ∀ m, listed.getD m false = true → (listed.setIfInBounds i true).getD m false = true := fun m hm => by
            rw [Array.getD_eq_getD_getElem?] at hm ⊢
            rw [Array.getElem?_setIfInBounds]
            split
            · split <;> simp_all
            · exact hm
          by_cases hki : k = i
          · subst hki
            rw [ho] at hk; cases hk
            exact hmono _ (hafter e hek hbe)
          · have : listed.getD k false = true := by
              rw [Array.getD_eq_getD_getElem?] at hl ⊢
              rw [Array.getElem?_setIfInBounds, if_neg (Ne.symm hki)] at hl
              exact hl
            exact hmono _ (hcl k ok hk this e hek hbe)
        · rw [hset]
          rw [he] at hf
          simp only [List.length_append, List.length_cons] at hf ⊢
          omega
        · rw [hset]; exact hE1
      rw [he] at hE
      rcases hE with ⟨l, el, hE⟩ | ⟨e, _⟩
      · by_cases hin : i = ops.length - 1
        ·
          have hpre0 : pre = [] := List.eq_nil_iff_forall_not_mem.2 fun k hk => by
            have h1 := hfree k (by simp [hk]) (hpre k hk)
            have h2 := hlast k (by rw [← hin]; exact hpre k hk)
            rw [hin, h2] at h1; cases h1
          have hpost0 : post = [] := List.eq_nil_iff_forall_not_mem.2 fun k hk => by
            rw [hpre0, List.nil_append, List.pairwise_cons] at hsort
            have h1 := hsort.1 k hk
            have h2 := hlt k (by simp [hk])
            omega
          subst hpre0 hpost0
          have hl0 : l = [] := by
            have := congrArg List.length el
            simp only [List.length_append, List.length_cons, List.length_nil] at this
            exact List.length_eq_zero_iff.1 (by omega)
          subst hl0
          obtain ⟨_, h2⟩ := hK s hE
          have h2 : EL P r N ops [o] s K := by
            rw [← hin] at h2
            simpa [ho] using h2
          refine wpOpIn_mono ?_ (el_head ho hs h2)
          rintro a' w' ⟨s1, hE1, hF⟩
          exact next s1 (.inr ⟨rfl, hE1⟩) a' w' hF
        · obtain ⟨post', e1, e2⟩ := last_split el hin
          rw [e2, List.filterMap_append, List.filterMap_cons] at hE
          simp only [ho] at hE
          have hi1 : i < ops.length - 1 := by
            have := hlt i (by simp)
            omega
          have hlt1 : ∀ k ∈ post', k < ops.length - 1 := fun k hk => by
            have h1 := hlt k (by rw [e1]; simp [hk])
            have h2 := (List.pairwise_append.1 hsort).2.1
            rw [e1] at h2
            have h3 := (List.pairwise_append.1 (List.pairwise_cons.1 h2).2).2.2 k hk (ops.length - 1) (by simp)
            exact h3
          have hE' := bubble3 (fun s' h => (hK s' h).1) hs.cl (fun p1 oj p2 hp => by
            obtain ⟨l1, j, l2, f1, f2, f3⟩ := filterMap_split hp
            have hjp : j ∈ pre := by rw [f1]; simp
            have := hsw i j o oj (l2 ++ post') (hpre j hjp) hi1 ho f2 (hfree j (by simp [hjp]) (hpre j hjp)) (fun k hk => by
              have hkl : k < ops.length - 1 := by
                rcases List.mem_append.1 hk with h | h
                · have := hpre k (by rw [f1]; simp [h]); omega
                · exact hlt1 k h
              have hk9 : k ∈ l2 ++ post := by
                rcases List.mem_append.1 hk with h | h
                · simp [h]
                · rw [e1]; simp [h]
              rw [f1, List.append_assoc, List.pairwise_append] at hsort
              have h3 := (List.pairwise_cons.1 hsort.2.1).1
              have hk' : k ∈ l2 ++ i :: post := by
                rcases List.mem_append.1 hk9 with h | h
                · simp [h]
                · simp [h]
              have h4 := (List.pairwise_cons.1 hsort.2.1).2
              refine ⟨h3 k hk', fun e => ?_, hkl, hfree k (by
                rcases List.mem_append.1 hk9 with h | h
                · rw [f1]; simp [h]
                · simp [h])⟩
              subst e
              have h4 := List.pairwise_append.1 (show (l2 ++ k :: post).Pairwise (· < ·) from h4)
              rcases List.mem_append.1 hk9 with h | h
              · have := h4.2.2 k h k (by simp); omega
              · have := (List.pairwise_cons.1 h4.2.1).1 k h; omega)
            rw [List.filterMap_append, f3] at this
            exact this) hE
          refine wpOpIn_mono ?_ (el_head ho hs hE')
          rintro a' w' ⟨s1, hE1, hF⟩
          refine next s1 (.inl ⟨pre ++ post', by rw [e1]; simp, ?_⟩) a' w' hF
          rw [List.filterMap_append]; exact hE1
      · simp at e
def allBits (m : Nat) : Nat → Bool
  | 0 => true
  | k + 1 => m.testBit k && allBits m k
theorem allBits_spec {m : Nat} : ∀ {k : Nat}, allBits m k = true → ∀ j, j < k → m.testBit j = true
  | 0, _, j, hj => by omega
  | k + 1, h, j, hj => by
    simp only [allBits, Bool.and_eq_true] at h
    by_cases e : j = k
    · subst e; exact h.1
    · exact allBits_spec h.2 j (by omega)
def chkAny4 (P : Program) (v q : List Nat) (ops : List Oper) (cfs : List Cf) : Bool := masksGo ops [] fun l => maskOk ops (fun i => l.getD i 0) && (decide (0 < ops.length) && (allBits (l.getD (ops.length - 1) 0) (ops.length - 1) && match rows3 P v q ops ops.dropLast (fun i => l.getD i 0) ops.dropLast.zipIdx with | some c => cfsEq c cfs | none => false))
theorem awp_any4 {id : Nat} {st : St} {Q : AEx → St → Prop} (cfs : List Cf) (hm : P.follows .mixedOrders = true) (hchk : chkAny4 P r.v r.q ops cfs = true)
    (h : EL P r N ops ops.dropLast st (fun s => (cfs.all fun c => c.ok s.t) = true ∧ EL P r N ops (ops.drop (ops.length - 1)) s (Q .normal))) : AWP P r N (.region id ops.toArray true) st Q := by
  obtain ⟨l, hl⟩ := masksGo_k hchk
  simp only [Bool.and_eq_true, decide_eq_true_eq] at hl
  obtain ⟨hl1, hn0, hl3, hl2⟩ := hl
  clear hchk
  have hrows : rows3 P r.v r.q ops ops.dropLast (fun i => l.getD i 0) ops.dropLast.zipIdx = some cfs := by
    revert hl2
    cases rows3 P r.v r.q ops ops.dropLast (fun i => l.getD i 0) ops.dropLast.zipIdx with
    | none => intro h; cases h
    | some c => intro h; rw [cfsEq_eq h]
  have hl4 := allBits_spec hl3
  generalize hbb : (fun i => l.getD i 0) = bb at *
  have hl5 : ∀ k, k < ops.length - 1 → (bb (ops.length - 1)).testBit k = true := fun k hk => by rw [← hbb]; exact hl4 k hk
  clear hl2 hl3 hl4
  have hget : ∀ {i : Nat}, i < ops.length - 1 → ∀ {o : Oper}, ops[i]? = some o → ops.dropLast[i]? = some o := fun {i} hi {o} ho => by
    rw [List.getElem?_dropLast, if_pos hi]; exact ho
  have hdl : (List.range (ops.length - 1)).filterMap (ops[·]?) = ops.dropLast := by
    have e1 : (List.range (ops.length - 1)).filterMap (ops[·]?) = (List.range ops.dropLast.length).filterMap (ops.dropLast[·]?) := by
      rw [List.length_dropLast]
      have : ∀ (l : List Nat), (∀ x ∈ l, x < ops.length - 1) → l.filterMap (ops[·]?) = l.filterMap (ops.dropLast[·]?) := by
        intro l
        induction l with
        | nil => intro _; rfl
        | cons y l ih =>
          intro h
          rw [List.filterMap_cons, List.filterMap_cons, List.getElem?_dropLast, if_pos (h y (by simp)), ih (fun x hx => h x (by simp [hx]))]
      exact this _ (fun x hx => by simpa using hx)
    rw [e1, range_filterMap]
  have hlst : [ops.length - 1].filterMap (ops[·]?) = ops.drop (ops.length - 1) := by
    have h1 : ops.length - 1 < ops.length := by omega
    rw [List.drop_eq_getElem_cons h1, show ops.length - 1 + 1 = ops.length by omega, List.drop_length]
    simp [h1]
  intro B S θ M w a hs
  refine wpIn_region_any hm ?_
  have hrem : remI ops.length (Array.replicate ops.length false) = List.range ops.length := remI_start _
  refine any_text4 (D := fun f => ∀ x ∈ cfs, x.ok f = true) (K := Q .normal) (K2 := fun s => (cfs.all fun c => c.ok s.t) = true ∧ EL P r N ops (ops.drop (ops.length - 1)) s (Q .normal)) (maskOk_spec hl1) hn0 hl5 (fun i j oi oj rest hji hi1 hi hj hbit hrest => ?_) (fun s' hs' => ⟨List.all_eq_true.1 hs'.1, by rw [hlst]; exact hs'.2⟩) ops.toArray.size (Array.replicate ops.toArray.size false) st B S θ M _ a (hs.drawn _) (by simp) (fun k o hk hL => ?_) ?_ ?_ (fun s' a' w' hk hF => ⟨.normal, s', rfl, hk, ?_⟩)
  · obtain ⟨c1, g1, g2⟩ := rows3_spec hrows (oi, i) (List.mem_zipIdx_iff_getElem?.2 (hget hi1 hi))
    obtain ⟨c2, g3, g4⟩ := row3_spec g1 (oj, j) (List.mem_zipIdx_iff_getElem?.2 (by rw [List.getElem?_take, if_pos hji]; exact hj)) hbit
    exact pair3_spec (b := bb) g3 (fun x hx => g2 x (g4 x hx)) hji hi hj hbit (fun k hk => ⟨(hrest k hk).1, (hrest k hk).2.1, (hrest k hk).2.2.2⟩) (fun k hk o ho => List.mem_of_getElem? (hget (hrest k hk).2.2.1 ho))
  · simp only [Array.getD_eq_getD_getElem?, Array.getElem?_replicate] at hL
    split at hL <;> simp at hL
  · simp only [List.size_toArray]; rw [hrem]; simp
  · simp only [List.size_toArray]; rw [hrem]
    refine .inl ⟨List.range (ops.length - 1), ?_, by rw [hdl]; exact h⟩
    rw [← List.range_succ]
    congr 1; omega
  · obtain ⟨⟨θ', M', h1, h2, h3, h4⟩, h5⟩ := hF
    exact ⟨⟨θ', M', h1, ⟨h2.size, h2.same, h2.os, h2.tape, h2.output⟩, h3, h4⟩, h5⟩
theorem awp_any4' {id : Nat} {st : St} {Q : AEx → St → Prop} (cfs : List Cf) (l : List Oper) (o : Oper) (hops : ops = l ++ [o]) (hm : P.follows .mixedOrders = true) (hchk : chkAny4 P r.v r.q ops cfs = true)
    (h : EL P r N ops l st (fun s => (cfs.all fun c => c.ok s.t) = true ∧ EL P r N ops [o] s (Q .normal))) : AWP P r N (.region id ops.toArray true) st Q := by
  refine awp_any4 cfs hm hchk ?_
  have e1 : ops.dropLast = l := by rw [hops]; simp
  have e2 : ops.drop (ops.length - 1) = [o] := by rw [hops]; simp
  rw [e1, e2]; exact h
end
end AM
end
/- The program: the fewest payments: the search. -/
section
namespace AM.Try
open Go AM AM.Duty
open Nat renaming reduceLT → sA, reduceAdd → sB, reduceMul → sC, reduceSub → sD, reduceLeDiff → sE, reduceEqDiff → sF, reduceBEq → sG
open Int renaming reduceAdd → sH, reduceSub → sI, reduceMul → sJ, reduceLT → sK, reduceLE → sL, reduceNeg → sM, reduceToNat → sN, reduceEq → sO
set_option maxHeartbeats 8000000
set_option maxRecDepth 100000
def downF {α : Type} (f : Int → Option α) : Nat → Int → Option α
  | 0, _ => none
  | c + 1, n => match f n with
    | some x => some x
    | none => downF f c (n - 1)
def payF (H : List Int → Bool) (last : Int) : Nat → List Int → Int → Option (List Int)
  | 0, days, _ => if H days = true then some days else none
  | m + 1, days, from' => downF (fun n => payF H last m (days ++ [n]) (n + 1)) (last - m - from' + 1).toNat (last - m)
def DV (dv : AV) (days : List Int) (os : Nat → Option AO) : Prop := (dv = .p (.val (.slice none 0 0)) ∧ days = []) ∨ ∃ nd, dv = .own nd days.length ∧ os nd = some (.arr 1 (days.map encI)) ∧ days ≠ []
abbrev good (a : Acc) (days : List Int) : Bool := (truthsL a).reverse.all (holds1 a days)
structure Py (a : Acc) (nF nA nT nP : Nat) (os : Nat → Option AO) : Prop where
  oF : ∃ x, os nF = some (.cells [x])
  oA : os nA = some (.cells (cA a))
  oT : os nT = some (.cells [.p (.sl ((truthsL a).reverse.map encL))])
  oP : os nP = some (.cells [.fn (.func 76) [] [.ptr nF 0, .ptr nA 0, .ptr nT 0, .ptr nP 0]])
  dFA : nF ≠ nA
  dFT : nF ≠ nT
  dFP : nF ≠ nP
def PyR (nF : Nat) (bd : Nat) (os : Nat → Option AO) (r : Option (List Int)) (res : AV) (os' : Nat → Option AO) : Prop :=
  res = bl r.isSome ∧ match r with
    | none => os' = upd os nF (some (.cells [.undef]))
    | some ds => (∃ dv, os' nF = some (.cells [dv]) ∧ DV dv ds os') ∧ ∀ n, n < bd → n ≠ nF → os' n = os n
theorem stwk_refl {t : Nat → AV} {l : List (Nat × AV)} {os : Nat → Option AO} (h1 : leT t l) (h2 : livesT os l) (hcl : (Hp os).closed) : St.wk ⟨T l, os⟩ ⟨t, os⟩ := ⟨fun i => leT_get h1 i, fun _ => .inr (.inl rfl), fun i => livesT_get h2 i, hcl.2⟩
theorem wk_forget {t : Nat → AV} {l : List (Nat × AV)} {os os' : Nat → Option AO} {n : Nat} {x : AV} (h1 : leT t l) (h2 : livesT (upd os n (some (.cells [.undef]))) l) (hcl : (Hp (upd os n (some (.cells [.undef])))).closed) (hn : os' n = some (.cells [x])) (ho : ∀ k, k ≠ n → os k = none ∨ os k = os' k) : St.wk ⟨T l, upd os n (some (.cells [.undef]))⟩ ⟨t, os'⟩ := by
  refine ⟨fun i => leT_get h1 i, fun k => ?_, fun i => livesT_get h2 i, hcl.2⟩
  show upd os n _ k = none ∨ upd os n _ k = os' k ∨ _
  by_cases e : k = n
  · subst e
    refine .inr (.inr ⟨[x], [.undef], hn, upd_eq, rfl, fun i y hy => ?_⟩)
    cases i with
    | zero => simp at hy; exact .inl hy.symm
    | succ i => simp at hy
  · rw [upd_ne e]
    rcases ho k e with h | h
    · exact .inl h
    · exact .inr (.inl h)
theorem closed_forget {os : Nat → Option AO} {n : Nat} (h : (Hp os).closed) : (Hp (upd os n (some (.cells [.undef])))).closed := closed_upd h (by rw [lives_cells_eq]; simp only [livesL_nil, livesL_cons, lives_undef_eq, and_self])
theorem DV.keep {dv : AV} {days : List Int} {os os' : Nat → Option AO} (h : DV dv days os) (hk : ∀ n k es, os n = some (.arr k es) → os' n = os n) : DV dv days os' := by
  rcases h with h | ⟨nd, h1, h2, h3⟩
  · exact .inl h
  · exact .inr ⟨nd, h1, (hk nd _ _ h2).trans h2, h3⟩
theorem arr_ne {os : Nat → Option AO} {n nF k : Nat} {es : List (List PV)} {cs : List AV} (h1 : os n = some (.arr k es)) (h2 : os nF = some (.cells cs)) : n ≠ nF := fun e => by subst e; rw [h1] at h2; cases h2
theorem upd_live {os : Nat → Option AO} {n k : Nat} {o : AO} (h : (os k).isSome = true) : (upd os n (some o) k).isSome = true := by
  by_cases e : k = n
  · subst e; rw [upd_eq]; rfl
  · rw [upd_ne e]; exact h
theorem c76_0 {a : Acc} (_ : faultS a = 0) {nF nA nT nP : Nat} {days : List Int} {fr : Int} {dv vdv : AV} {os : Nat → Option AO} {bd : Nat} (hpy : Py a nF nA nT nP os) (hdv : DV dv days os) (hcs : dv.cs? = some [dv]) (hvw : viewA (upd os nF (some (.cells [dv]))) dv = some vdv) (hpc : PCall Go.Proofs.Try.prog 77 [avA a, .p (.sl ((truthsL a).reverse.map encL)), vdv] (bl (good a days))) (hlv : dv.lives os) :
    VCall Go.Proofs.Try.prog bd (.fn (.func 76) [] [.ptr nF 0, .ptr nA 0, .ptr nT 0, .ptr nP 0]) [dv, i64 fr, i64 0] os (PyR nF bd os (payF (good a) a.last 0 days fr)) := by
  refine vcall_mk (v := []) (q := []) (N := 40) (rs := [.tmp 10]) Go.Proofs.Try.func76 rfl (by kernel_rfl) rfl rfl (fun hcl hfree => ?_)
  refine AWP.wk ?_
  obtain ⟨⟨x, oF⟩, oA, oT, oP, dFA, dFT, dFP⟩ := hpy
  have hfr0 : ∀ k, os (bd + k) = none := fun k => hfree _ (by omega)
  refine awp_seq_k fun K1 hK1 => ?_
  refine awp_ops ?_
  simp (disch := omega) only [amL, sA, sB]
  refine hK1 _ ?_
  refine awp_seq_k fun K2 hK2 => ?_
  refine awp_seq_k fun K3 hK3 => ?_
  refine awp_ops ?_
  simp (disch := omega) only [amL, amT, sA, sF, ↓reduceIte, reduceCtorEq]
  refine hK3 _ ?_
  refine awp_cond rfl (fun h => ?_) (fun h => ?_)
  ·first
   | exact Bool.noConfusion h
   |skip
    try simp only [] at h
    refine awp_seq_k fun K4 hK4 => ?_
    refine awp_ops ?_
    simp (disch := omega) only [oF, hcs, amL, amT, sA, sF, ↓reduceIte, reduceCtorEq]
    refine hK4 _ ?_
    refine awp_seq_k fun K5 hK5 => ?_
    refine awp_ops ?_
    simp (disch := omega) only [oA, oT, upd_ne, hvw, amL, amT, sA, sB, sF, ↓reduceIte, reduceCtorEq]
    repeat' first | (refine EC_intro (by kernel_rfl) rfl (hpc) (by first | exact .inl rfl | exact .inr (.inl rfl)) ?_ ; simp (disch := omega) only [amL, sA, ↓reduceIte])
    refine hK5 _ ?_
    refine awp_ret ?_
    try simp (disch := omega) only [amL]
    have hdv2 : DV dv days (upd os nF (some (.cells [dv]))) := hdv.keep fun n k es hn => upd_ne (arr_ne hn oF)
    cases hg : good a days with
    | true =>
      refine ⟨⟨T [(10, bl true)], upd os nF (some (.cells [dv]))⟩, stwk_refl (by simp (disch := omega) only [amL, ↓reduceIte]) (by simp (disch := omega) only [amL]) (closed_upd hcl ?_), retV_mk (res := bl true) _ (by simp (disch := omega) only [amL, ↓reduceIte]) (Sub.refl _) (closed_upd hcl ?_) (lives_isP _ rfl) ?_⟩
      · rw [lives_cells_eq]; exact ⟨AV.lives_mono (fun k hk => upd_live hk) hlv, trivial⟩
      · rw [lives_cells_eq]; exact ⟨AV.lives_mono (fun k hk => upd_live hk) hlv, trivial⟩
      · simp only [payF, hg, if_true]
        exact ⟨rfl, ⟨dv, upd_eq, hdv2⟩, fun n _ hn => upd_ne hn⟩
    | false =>
      refine ⟨⟨T [(10, bl false)], upd os nF (some (.cells [.undef]))⟩, wk_forget (by simp (disch := omega) only [amL, ↓reduceIte]) (by simp (disch := omega) only [amL]) (closed_forget hcl) upd_eq (fun k hk => .inr (upd_ne hk).symm), retV_mk (res := bl false) _ (by simp (disch := omega) only [amL, ↓reduceIte]) (Sub.refl _) (closed_forget hcl) (lives_isP _ rfl) ?_⟩
      simp only [payF, hg, Bool.false_eq_true, if_false]
      exact ⟨rfl, rfl⟩
  ·first
   | exact Bool.noConfusion h
   |skip
    try simp only [Bool.not_eq_true', decide_eq_true_eq, decide_eq_false_iff_not, Bool.and_eq_true, Bool.not_eq_false', Bool.not_not, decide_not, Bool.not_true, Bool.not_false] at h
    refine awp_skip ?_
    refine hK2 _ ?_
    refine awp_seq_k fun K6 hK6 => ?_
    refine awp_seq_k fun K7 hK7 => ?_
    exact absurd h (by simp)
theorem downF_step {α : Type} {f : Int → Option α} {c : Nat} {n : Int} (h : 0 < c) : downF f c n = match f n with | some x => some x | none => downF f (c - 1) (n - 1) := by
  cases c with
  | zero => omega
  | succ c => rfl
theorem ne_bne {a b : Nat} (h : a ≠ b) : (a != b) = true := by simpa using h
theorem purge_fn {n : Nat} {f : Fn} {fs cs : List AV} : (AV.fn f fs cs).purge n = if (AV.clean.cleanL n fs && AV.clean.cleanL n cs) = true then .fn f fs cs else .undef := rfl
def os7 (os : Nat → Option AO) (nF b1 b2 b3 : Nat) (days : List Int) (n : Int) : Nat → Option AO := upd (pg b1 (upd (upd (upd os nF (some (.cells [.undef]))) b1 (some (.arr 1 (days.map encI)))) b2 (some (.arr 1 [[iv n]])))) b3 (some (.arr 1 (days.map encI ++ [[iv n]])))
section
variable {os : Nat → Option AO} {nF bd b1 b2 b3 : Nat} {days : List Int} {n : Int}
theorem os7_lt (hcl : (Hp os).closed) (hfree : ∀ n, bd ≤ n → os n = none) (h1 : bd ≤ b1) (h2 : bd ≤ b2) (h3 : bd ≤ b3) {q : Nat} (hq : q < bd) (hF : q ≠ nF) : os7 os nF b1 b2 b3 days n q = os q := by
  unfold os7
  simp (disch := omega) only [upd_ne, pg_ne]
  cases ho : os q with
  | none => rfl
  | some o => rw [Option.map_some, purgeO_id (cleanO_of_none (hcl.2 q o ho) (hfree _ h1))]
theorem os7_F (h1 : bd ≤ b1) (h2 : bd ≤ b2) (h3 : bd ≤ b3) (hF : nF < bd) : os7 os nF b1 b2 b3 days n nF = some (.cells [.undef]) := by
  unfold os7
  simp (disch := omega) only [upd_ne, pg_ne, upd_eq, Option.map_some, purge_cells, List.map_cons, List.map_nil, purge_undef]
theorem os7_new : os7 os nF b1 b2 b3 days n b3 = some (.arr 1 ((days ++ [n]).map encI)) := by
  unfold os7; rw [upd_eq, List.map_append]; rfl
theorem os7_free (hfree : ∀ n, bd ≤ n → os n = none) (hF : nF < bd) {q : Nat} (hq : bd ≤ q) (h1 : q ≠ b1) (h2 : q ≠ b2) (h3 : q ≠ b3) : os7 os nF b1 b2 b3 days n q = none := by
  unfold os7
  simp (disch := omega) only [upd_ne, pg_ne, hfree q hq, Option.map_none]
end
theorem down_next {α : Type} {f : Int → Option α} {c k : Nat} {x : Int} (hc : k < c) (hf : f (x - k) = none) : downF f (c - k) (x - k) = downF f (c - (k + 1)) (x - ((k : Int) + 1)) := by
  rw [downF_step (by omega), hf, show c - k - 1 = c - (k + 1) by omega, show x - (k : Int) - 1 = x - ((k : Int) + 1) by omega]
theorem down_some {α : Type} {f : Int → Option α} {c k : Nat} {x : Int} {y : α} (hc : k < c) (hf : f (x - k) = some y) : downF f (c - k) (x - k) = some y := by
  rw [downF_step (by omega), hf]
theorem sub_none {os os7 os2 : Nat → Option AO} {nF bd : Nat} (h : os2 = upd os7 nF (some (.cells [.undef]))) (hq : ∀ q, q < bd → q ≠ nF → os7 q = os q) (hfree : ∀ n, bd ≤ n → os n = none) : Sub (upd os nF (some (.cells [.undef]))) os2 := fun q => by
  rw [h]
  by_cases e : q = nF
  · subst e; right; rw [upd_eq, upd_eq]
  · rw [upd_ne e, upd_ne e]
    cases Nat.lt_or_ge q bd with
    | inl hlt => right; exact (hq q hlt e).symm
    | inr hge => left; exact hfree q hge
theorem c76_s {a : Acc} (hf : faultS a = 0) {nF nA nT nP m : Nat} (ih : ∀ (days : List Int) (fr : Int) (dv : AV) (os : Nat → Option AO) (bd : Nat), Py a nF nA nT nP os → DV dv days os → m ≤ 100 → days.length + m ≤ 1000 → -1000 ≤ fr → fr ≤ 1000 →
      VCall Go.Proofs.Try.prog bd (.fn (.func 76) [] [.ptr nF 0, .ptr nA 0, .ptr nT 0, .ptr nP 0]) [dv, i64 fr, i64 (m : Int)] os (PyR nF bd os (payF (good a) a.last m days fr)))
    {days : List Int} {fr : Int} {dv vdv : AV} {os : Nat → Option AO} {bd : Nat} (hpy : Py a nF nA nT nP os) (_ : DV dv days os) (hm : m ≤ 99) (hl : days.length + m ≤ 999) (hf1 : -1000 ≤ fr) (hf2 : fr ≤ 1000)
    (hvw : viewA (upd os nF (some (.cells [.undef]))) dv = some vdv) (hn : NCall Go.Proofs.Try.prog 60 [vdv] 1 (days.map encI)) (hlv : dv.lives os) :
    VCall Go.Proofs.Try.prog bd (.fn (.func 76) [] [.ptr nF 0, .ptr nA 0, .ptr nT 0, .ptr nP 0]) [dv, i64 fr, i64 ((m : Int) + 1)] os (PyR nF bd os (payF (good a) a.last (m + 1) days fr)) := by
  refine vcall_mk (v := []) (q := []) (N := 40) (rs := [.tmp 10]) Go.Proofs.Try.func76 rfl (by kernel_rfl) rfl rfl (fun hcl hfree => ?_)
  refine AWP.wk ?_
  obtain ⟨⟨x, oF⟩, oA, oT, oP, dFA, dFT, dFP⟩ := hpy
  obtain ⟨_, _, z3, _, _, _⟩ := fault_zero hf
  simp only [inB, Bool.and_eq_true, decide_eq_true_eq] at z3
  have hfr0 : ∀ k, os (bd + k) = none := fun k => hfree _ (by omega)
  have bF := lt_of_live hfree oF
  have bA := lt_of_live hfree oA
  have bT := lt_of_live hfree oT
  have bP := lt_of_live hfree oP
  have hclF := closed_forget (n := nF) hcl
  have em : (m : Int) + 1 - 1 = m := by omega
  have hpu : dv.purge (bd + 31) = dv := purge_id (clean_of_none hlv (hfr0 31))
  have hlvF : dv.lives (upd os nF (some (.cells [.undef]))) := AV.lives_mono (fun k hk => upd_live hk) hlv
  refine awp_seq_k fun K1 hK1 => ?_
  refine awp_ops ?_
  simp (disch := omega) only [amL, sA, sB]
  refine hK1 _ ?_
  refine awp_seq_k fun K2 hK2 => ?_
  refine awp_seq_k fun K3 hK3 => ?_
  refine awp_ops ?_
  simp (disch := omega) only [amL, amT, sA, sF, ↓reduceIte, reduceCtorEq]
  refine hK3 _ ?_
  refine awp_cond rfl (fun h => ?_) (fun h => ?_)
  ·first
   | exact Bool.noConfusion h
   |skip
    try simp only [Bool.not_eq_true', decide_eq_true_eq, decide_eq_false_iff_not, Bool.and_eq_true, Bool.not_eq_false', Bool.not_not, decide_not, Bool.not_true, Bool.not_false] at h
    refine awp_seq_k fun K4 hK4 => ?_
    exact absurd h (by omega)
  ·first
   | exact Bool.noConfusion h
   |skip
    try simp only [decide_eq_false_iff_not] at h
    refine awp_skip ?_
    refine hK2 _ ?_
    refine awp_seq_k fun K5 hK5 => ?_
    refine awp_seq_k fun K6 hK6 => ?_
    refine awp_ops ?_
    simp (disch := omega) only [oA, amL, amT, sA, sF, ↓reduceIte, reduceCtorEq]
    refine hK6 _ ?_
    refine awp_block ?_
    refine AWP.from_wk (s1 := ⟨T [(0, dv), (1, i64 fr), (2, i64 ((m : Int) + 1)), (3, .ptr nF 0), (4, .ptr nA 0), (5, .ptr nT 0), (6, .ptr nP 0), (10, bl false), (11, i64 (a.last - ((m : Int) + 1) + 1))], upd os nF (some (.cells [.undef]))⟩) (wk_forget ?_ ?_ hclF oF (fun _ _ => .inr rfl)) ?_
    all_goals try (simp (disch := omega) only [oA, oT, oP, upd_ne, upd_eq, hlvF, amL, sF, ↓reduceIte, reduceCtorEq]; done)
    refine awp_loop_k (α := Nat) (fun k => ⟨T [(0, dv), (1, i64 fr), (2, i64 ((m : Int) + 1)), (3, .ptr nF 0), (4, .ptr nA 0), (5, .ptr nT 0), (6, .ptr nP 0), (10, bl false), (11, i64 (a.last - ((m : Int) + 1) + 1 - (k : Int)))], upd os nF (some (.cells [.undef]))⟩) (fun k => (a.last - m - fr + 1).toNat - k) (fun k => payF (good a) a.last (m + 1) days fr = downF (fun n => payF (good a) a.last m (days ++ [n]) (n + 1)) ((a.last - m - fr + 1).toNat - k) (a.last - m - k)) 0 ?_ ?_ (fun k hx7 K7 hK7 => ?_)
    · simp [payF]
    · refine le_os ?_ ?_ ?_ ?_ <;> (try simp (disch := omega) only [oA, oT, oP, upd_ne, upd_eq, hlvF, amL, sF, ↓reduceIte, reduceCtorEq]); all_goals first | (rw [Int.sub_zero]) | exact Sub.refl _ | exact hclF | (omega)
    have hx0 := hx7
    refine awp_seq_k fun K8 hK8 => ?_
    refine awp_seq_k fun K9 hK9 => ?_
    refine awp_ops ?_
    simp (disch := omega) only [amL, amT, sA, sF, ↓reduceIte, reduceCtorEq]
    refine hK9 _ ?_
    refine awp_cond rfl (fun h => ?_) (fun h => ?_)
    ·first
     | exact Bool.noConfusion h
     |skip
      try simp only [decide_eq_true_eq] at h
      refine awp_skip ?_
      refine hK8 _ ?_
      refine awp_seq_k fun K10 hK10 => ?_
      refine awp_block ?_
      refine awp_seq_k fun K11 hK11 => ?_
      refine awp_any4 [.app [6]] (by kernel_rfl) (by kernel_rfl) ?_
      simp only [List.dropLast, List.length_cons, List.length_nil, Nat.reduceAdd, Nat.reduceSub, List.drop_succ_cons, List.drop_zero]
      simp (disch := omega) only [oP, upd_ne, hvw, amL, amT, sA, sF, ↓reduceIte, reduceCtorEq]
      repeat' first | (refine EN_intro (by kernel_rfl) (by decide) (hn) (by simp (disch := omega) only [hfr0, upd_ne]) ?_ ; simp (disch := omega) only [em, hfr0, upd_ne, upd_eq, purge_os, pg_ne, Option.map_none, purge_fn, ne_bne, hpu, amL, amT, sA, sE, sF, ↓reduceIte, reduceCtorEq])
      have hq1 : ∀ q, q < bd → q ≠ nF → os7 os nF (bd + 31) (bd + 33) (bd + 34) days (a.last - ((m : Int) + 1) + 1 - k) q = os q := fun q h1 h2 => os7_lt hcl hfree (by omega) (by omega) (by omega) h1 h2
      have hqF : os7 os nF (bd + 31) (bd + 33) (bd + 34) days (a.last - ((m : Int) + 1) + 1 - k) nF = some (.cells [.undef]) := os7_F (bd := bd) (by omega) (by omega) (by omega) bF
      have hqN : os7 os nF (bd + 31) (bd + 33) (bd + 34) days (a.last - ((m : Int) + 1) + 1 - k) (bd + 34) = some (.arr 1 ((days ++ [a.last - ((m : Int) + 1) + 1 - k]).map encI)) := os7_new
      have hqfr : ∀ q, bd + 40 ≤ q → os7 os nF (bd + 31) (bd + 33) (bd + 34) days (a.last - ((m : Int) + 1) + 1 - k) q = none := fun q hq => os7_free hfree bF (by omega) (by omega) (by omega) (by omega)
      have hih := ih (days ++ [a.last - ((m : Int) + 1) + 1 - k]) (a.last - ((m : Int) + 1) + 1 - k + 1) (.own (bd + 34) (days.length + 1)) (os7 os nF (bd + 31) (bd + 33) (bd + 34) days (a.last - ((m : Int) + 1) + 1 - k)) (bd + 40)
        ⟨⟨_, hqF⟩, (hq1 nA bA (Ne.symm dFA)).trans oA, (hq1 nT bT (Ne.symm dFT)).trans oT, (hq1 nP bP (Ne.symm dFP)).trans oP, dFA, dFT, dFP⟩ (.inr ⟨bd + 34, by simp, hqN, by simp⟩) (by omega) (by simp; omega) (by omega) (by omega)
      refine ⟨by simp [Cf.ok, T, AV.known], ?_⟩
      refine EV_intro2 [(0, dv), (1, i64 fr), (2, i64 ((m : Int) + 1)), (3, .ptr nF 0), (4, .ptr nA 0), (5, .ptr nT 0), (6, .ptr nP 0), (10, bl false), (11, i64 (a.last - ((m : Int) + 1) + 1 - k))] (by decide) (os := os7 os nF (bd + 31) (bd + 33) (bd + 34) days (a.last - ((m : Int) + 1) + 1 - k)) hih hqfr (by simp only []; omega) (fun res os2 hR hcl2 hlv2 => ?_)
      obtain ⟨rfl, hR⟩ := hR
      generalize hrv : payF (good a) a.last m (days ++ [a.last - ((m : Int) + 1) + 1 - k]) (a.last - ((m : Int) + 1) + 1 - k + 1) = rv at hR ⊢
      have hsm : ∀ q, q < bd → q ≠ nF → os2 q = os q := fun q h1 h2 => by
        cases rv with
        | none =>
          have hR : os2 = _ := hR
          rw [hR, upd_ne h2]; exact hq1 q h1 h2
        | some ds => exact (hR.2 q (by omega) h2).trans (hq1 q h1 h2)
      have hFs : (os2 nF).isSome = true := by
        cases rv with
        | none =>
          have hR : os2 = _ := hR
          rw [hR, upd_eq]; rfl
        | some ds => obtain ⟨⟨_, h1, _⟩, _⟩ := hR; rw [h1]; rfl
      have hdl : dv.lives os2 := fun q hq => by
        have h1 := hlv q hq
        by_cases e : q = nF
        · subst e; exact hFs
        · obtain ⟨o, ho⟩ := Option.isSome_iff_exists.1 h1
          rw [hsm q (lt_of_live hfree ho) e]; exact h1
      simp (disch := omega) only [amL, sF, ↓reduceIte, reduceCtorEq]
      refine ⟨⟨hdl, hFs, by rw [hsm nA bA (Ne.symm dFA), oA]; rfl, by rw [hsm nT bT (Ne.symm dFT), oT]; rfl, by rw [hsm nP bP (Ne.symm dFP), oP]; rfl⟩, ?_⟩
      refine hK11 _ ?_
      refine awp_cond rfl (fun h => ?_) (fun h => ?_)
      ·first
       | exact Bool.noConfusion h
       |skip
        try simp only [Bool.not_eq_true', decide_eq_true_eq, decide_eq_false_iff_not, Bool.and_eq_true, Bool.not_eq_false', Bool.not_not, decide_not, Bool.not_true, Bool.not_false] at h
        refine awp_seq_k fun K12 hK12 => ?_
        refine awp_ops ?_
        simp (disch := omega) only [amL, sA]
        refine hK12 _ ?_
        refine awp_ret ?_
        try simp (disch := omega) only [amL]
        first
          | (have e9 : a.last - ((m : Int) + 1) + 1 - (k : Int) = a.last - m - k := (by omega)
             cases rv with
             | none => cases h
             | some ds =>
               rw [e9] at hrv
               have hpay : payF (good a) a.last (m + 1) days fr = some ds := by rw [hx0]; exact down_some (by omega) hrv
               refine ⟨⟨T [(10, bl true)], os2⟩, stwk_refl (by simp (disch := omega) only [amL, ↓reduceIte]) (by simp (disch := omega) only [amL]) hcl2, retV_mk (res := bl true) _ (by simp (disch := omega) only [amL, ↓reduceIte]) (Sub.refl _) hcl2 (lives_isP _ rfl) ?_⟩
               rw [hpay]
               exact ⟨rfl, hR.1, fun q h1 h2 => hsm q h1 h2⟩)
          | (have hpay : payF (good a) a.last (m + 1) days fr = none := by
               rw [hx0, show (a.last - (m : Int) - fr + 1).toNat - k = 0 by omega]; rfl
             refine ⟨⟨T [(10, bl false)], upd os nF (some (.cells [.undef]))⟩, stwk_refl (by simp (disch := omega) only [oF, oA, oT, oP, hfr0, upd_ne, upd_eq, hvw, hlvF, purge_os, pg_ne, pg_eq, Option.map_none, purge_fn, ne_bne, hpu, amL, amT, sA, sB, sC, sD, sE, sF, sG, sH, sI, sJ, sK, sL, sM, sN, sO, ↓reduceIte, reduceCtorEq]) (by simp (disch := omega) only [oF, oA, oT, oP, hfr0, upd_ne, upd_eq, hvw, hlvF, purge_os, pg_ne, pg_eq, Option.map_none, purge_fn, ne_bne, hpu, amL, amT, sA, sB, sC, sD, sE, sF, sG, sH, sI, sJ, sK, sL, sM, sN, sO, ↓reduceIte, reduceCtorEq]) hclF, retV_mk (res := bl false) _ (by simp (disch := omega) only [oF, oA, oT, oP, hfr0, upd_ne, upd_eq, hvw, hlvF, purge_os, pg_ne, pg_eq, Option.map_none, purge_fn, ne_bne, hpu, amL, amT, sA, sB, sC, sD, sE, sF, sG, sH, sI, sJ, sK, sL, sM, sN, sO, ↓reduceIte, reduceCtorEq]) (Sub.refl _) hclF (lives_isP _ rfl) ?_⟩
             rw [hpay]
             exact ⟨rfl, rfl⟩)
          | (omega)
      ·first
       | exact Bool.noConfusion h
       |skip
        try simp only [Bool.not_eq_true', decide_eq_true_eq, decide_eq_false_iff_not, Bool.and_eq_true, Bool.not_eq_false', Bool.not_not, decide_not, Bool.not_true, Bool.not_false] at h
        refine awp_skip ?_
        refine hK10 _ ?_
        refine awp_ops ?_
        simp (disch := omega) only [amL, amT, sA, sF, ↓reduceIte, reduceCtorEq]
        refine hK7 (k+1) _ ?_ ?_ (le_os ?_ ?_ ?_ ?_)
        all_goals (try simp (disch := omega) only [oA, oT, oP, upd_ne, upd_eq, hlvF, amL, sF, ↓reduceIte, reduceCtorEq])
        all_goals (have hrn : rv = none := by cases rv with | none => rfl | some _ => cases h)
        all_goals (have e9 : a.last - ((m : Int) + 1) + 1 - (k : Int) = a.last - m - k := by omega)
        all_goals first | omega | (rw [hx7]; exact down_next (by omega) (by rw [e9, hrn] at hrv; exact hrv)) | (show i64 _ = i64 _; rw [show a.last - ((m : Int) + 1) + 1 - (k : Int) - 1 = a.last - ((m : Int) + 1) + 1 - ((k : Int) + 1) by omega]) | exact hclF | (rw [hrn] at hR; exact sub_none hR hq1 hfree) | (omega)
    ·first
     | exact Bool.noConfusion h
     |skip
      try simp only [decide_eq_false_iff_not] at h
      refine awp_exit ?_
      refine hK5 _ ?_
      refine awp_seq_k fun K13 hK13 => ?_
      refine awp_ops ?_
      simp (disch := omega) only [amL, sA]
      refine hK13 _ ?_
      refine awp_ret ?_
      try simp (disch := omega) only [amL]
      first
        | (have e9 : a.last - ((m : Int) + 1) + 1 - (k : Int) = a.last - m - k := (by omega)
           cases rv with
           | none => cases h
           | some ds =>
             rw [e9] at hrv
             have hpay : payF (good a) a.last (m + 1) days fr = some ds := by rw [hx0]; exact down_some (by omega) hrv
             refine ⟨⟨T [(10, bl true)], os2⟩, stwk_refl (by simp (disch := omega) only [oF, oA, oT, oP, hfr0, upd_ne, upd_eq, hvw, hlvF, purge_os, pg_ne, pg_eq, Option.map_none, purge_fn, ne_bne, hpu, amL, amT, sA, sB, sC, sD, sE, sF, sG, sH, sI, sJ, sK, sL, sM, sN, sO, ↓reduceIte, reduceCtorEq]) (by simp (disch := omega) only [oF, oA, oT, oP, hfr0, upd_ne, upd_eq, hvw, hlvF, purge_os, pg_ne, pg_eq, Option.map_none, purge_fn, ne_bne, hpu, amL, amT, sA, sB, sC, sD, sE, sF, sG, sH, sI, sJ, sK, sL, sM, sN, sO, ↓reduceIte, reduceCtorEq]) hcl2, retV_mk (res := bl true) _ (by simp (disch := omega) only [oF, oA, oT, oP, hfr0, upd_ne, upd_eq, hvw, hlvF, purge_os, pg_ne, pg_eq, Option.map_none, purge_fn, ne_bne, hpu, amL, amT, sA, sB, sC, sD, sE, sF, sG, sH, sI, sJ, sK, sL, sM, sN, sO, ↓reduceIte, reduceCtorEq]) (Sub.refl _) hcl2 (lives_isP _ rfl) ?_⟩
             rw [hpay]
             exact ⟨rfl, hR.1, fun q h1 h2 => hsm q h1 h2⟩)
        | (have hpay : payF (good a) a.last (m + 1) days fr = none := by
             rw [hx0, show (a.last - (m : Int) - fr + 1).toNat - k = 0 by omega]; rfl
           refine ⟨⟨T [(10, bl false)], upd os nF (some (.cells [.undef]))⟩, stwk_refl (by simp (disch := omega) only [amL, ↓reduceIte]) (by simp (disch := omega) only [amL]) hclF, retV_mk (res := bl false) _ (by simp (disch := omega) only [amL, ↓reduceIte]) (Sub.refl _) hclF (lives_isP _ rfl) ?_⟩
           rw [hpay]
           exact ⟨rfl, rfl⟩)
        | (omega)
end AM.Try
end
/- The abstract machine, part 45: scopes. -/
section
namespace AM
open Go
section
variable {P : Program} {b : Frame} {a : Act} {k : List Item} {cs : List Frame} {w : World} {F : Fence} {n : Nat} {Q : Exit → Act → World → Prop}
theorem stepR_scope {c : Code} : step P (lone (b.atR a (.code (.scope c) :: k)) cs w) = .next (lone (b.atR a (.code c :: .inScope c :: k)) cs w) :=
  step_lone_go (by simp [stepG, stepG.exec, Frame.atR])
theorem stepR_inScope {c : Code} : step P (lone (b.atR a (.inScope c :: k)) cs w) = .next (lone (b.atR a k) cs w) :=
  step_lone_go (by simp [stepG, stepG.exec, Frame.atR])
theorem wpIn_scope_straight {c : Code} (h : c.wpIn F n P (Exit.noGoto Q) a w) : (Code.scope c).wpIn F n P Q a w := by
  intro b k cs hro hb hr
  have h0 : (lone (b.atR a (.code (.scope c) :: k)) cs w).fenced P F := fenced_calm hb hr rfl
  obtain ⟨e, a₁, w₁, hq, harr⟩ := h b (.inScope c :: k) cs hro hb hr
  cases e with
  | normal => exact ⟨.normal, a₁, w₁, hq, .head h0 stepR_scope (StepsIn.trans harr (.one (fenced_calm hb hr rfl) stepR_inScope))⟩
  | exit id =>
    have hx : exitTo id (.inScope c :: k) = exitTo id k := by simp [exitTo]
    exact ⟨.exit id, a₁, w₁, hq, fun k' hk => .head h0 stepR_scope (harr.1 k' (by rw [hx]; exact hk)),
      fun hr' hk => let ⟨k₁, h1, h2⟩ := harr.2 hr' (by rw [hx]; exact hk); ⟨k₁, h1, .head h0 stepR_scope h2⟩⟩
  | goto l => exact hq.elim
  | ret => exact ⟨_, a₁, w₁, hq, .of_steps (.one h0 stepR_scope) harr⟩
  | panic ch => exact ⟨_, a₁, w₁, hq, .of_steps (.one h0 stepR_scope) harr⟩
  | outgrown => exact ⟨_, a₁, w₁, hq, .of_steps (.one h0 stepR_scope) harr⟩
end
theorem awp_scope {P : Program} {r : RB} {N : Nat} {c : Code} {st : St} {Q : AEx → St → Prop} (h : AWP P r N c st Q) : AWP P r N (.scope c) st Q := by
  intro B S θ M w a hs
  refine wpIn_scope_straight (wpIn_mono (h B S θ M w a hs) ?_)
  rintro e a' w' ⟨ae, st', rfl, h2, h3⟩
  cases ae with
  | normal => exact ⟨.normal, st', rfl, h2, h3⟩
  | exit id => exact ⟨.exit id, st', rfl, h2, h3⟩
  | ret => exact ⟨.ret, st', rfl, h2, h3⟩
end AM
end
/- The program: the fewest payments. -/
section
namespace AM.Try
open Go AM AM.Duty
open Nat renaming reduceLT → sA, reduceAdd → sB, reduceMul → sC, reduceSub → sD, reduceLeDiff → sE, reduceEqDiff → sF, reduceBEq → sG
open Int renaming reduceAdd → sH, reduceSub → sI, reduceMul → sJ, reduceLT → sK, reduceLE → sL, reduceNeg → sM, reduceToNat → sN, reduceEq → sO
set_option maxHeartbeats 8000000
set_option maxRecDepth 100000
theorem view_own {os : Nat → Option AO} {nd : Nat} {days : List Int} (h : os nd = some (.arr 1 (days.map encI))) : viewA os (.own nd days.length) = some (isl days) := by
  rw [viewA_own, el_own', h, elO_arr, if_pos (by simp), List.take_of_length_le (by simp)]; rfl
theorem DV.lives {dv : AV} {days : List Int} {os : Nat → Option AO} (h : DV dv days os) : dv.lives os := by
  rcases h with ⟨rfl, _⟩ | ⟨nd, rfl, h, _⟩
  · exact AV.lives_p _ _
  · rw [lives_own_eq, h]; rfl
theorem DV.cs {dv : AV} {days : List Int} {os : Nat → Option AO} (h : DV dv days os) : dv.cs? = some [dv] := by
  rcases h with ⟨rfl, _⟩ | ⟨nd, rfl, h, _⟩ <;> rfl
theorem c76 {a : Acc} (hf : faultS a = 0) {nF nA nT nP : Nat} : ∀ (m : Nat) (days : List Int) (fr : Int) (dv : AV) (os : Nat → Option AO) (bd : Nat), Py a nF nA nT nP os → DV dv days os → m ≤ 100 → days.length + m ≤ 1000 → -1000 ≤ fr → fr ≤ 1000 →
    VCall Go.Proofs.Try.prog bd (.fn (.func 76) [] [.ptr nF 0, .ptr nA 0, .ptr nT 0, .ptr nP 0]) [dv, i64 fr, i64 (m : Int)] os (PyR nF bd os (payF (good a) a.last m days fr)) := by
  intro m
  induction m with
  | zero =>
    intro days fr dv os bd hpy hdv hm hl hf1 hf2
    obtain ⟨x, oF⟩ := hpy.oF
    rcases hdv with ⟨rfl, rfl⟩ | ⟨nd, rfl, od, hne⟩
    · exact c76_0 hf hpy (.inl ⟨rfl, rfl⟩) rfl rfl (PCall.of_nil 2 rfl (c77r a [] hf (by simp))) (AV.lives_p _ _)
    · exact c76_0 hf hpy (.inr ⟨nd, rfl, od, hne⟩) rfl (view_own (by rw [upd_ne (arr_ne od oF)]; exact od)) (c77r a days hf (by omega)) (DV.lives (.inr ⟨nd, rfl, od, hne⟩))
  | succ m ih =>
    intro days fr dv os bd hpy hdv hm hl hf1 hf2
    obtain ⟨x, oF⟩ := hpy.oF
    rcases hdv with ⟨rfl, rfl⟩ | ⟨nd, rfl, od, hne⟩
    · exact c76_s hf ih hpy (.inl ⟨rfl, rfl⟩) (by omega) (by omega) hf1 hf2 rfl (NCall.of_nil 0 rfl (n60 [] (by simp))) (AV.lives_p _ _)
    · exact c76_s hf ih hpy (.inr ⟨nd, rfl, od, hne⟩) (by omega) (by omega) hf1 hf2 (view_own (by rw [upd_ne (arr_ne od oF)]; exact od)) (n60 days (by omega)) (DV.lives (.inr ⟨nd, rfl, od, hne⟩))
def upF {α : Type} (f : Nat → Option α) : Nat → Nat → Option α
  | 0, _ => none
  | c + 1, n => match f n with
    | some x => some x
    | none => upF f c (n + 1)
def paysL (a : Acc) : Option (List Int) := upF (fun m => payF (good a) a.last m [] 0) (a.last + 2).toNat 0
def paysA (a : Acc) : AV :=
  if faultS a = 0 then if (truthsL a).isEmpty = true then .tup [.p (.val (.slice none 0 0)), i64 9] else match paysL a with
    | none => .tup [.p (.val (.slice none 0 0)), i64 10]
    | some ds => .tup [if ds.isEmpty then .p (.val (.slice none 0 0)) else isl ds, i64 0]
  else .tup [.p (.val (.slice none 0 0)), i64 (faultS a)]
theorem paysA_isP (a : Acc) : (paysA a).isP = true := by
  unfold paysA; split
  · split
    · rfl
    · split
      · rfl
      · split <;> rfl
  · rfl
theorem upF_next {α : Type} {f : Nat → Option α} {c k : Nat} (hc : k < c) (hf : f k = none) : upF f (c - k) k = upF f (c - (k + 1)) (k + 1) := by
  rw [show c - k = (c - (k + 1)) + 1 by omega]
  show (match f k with | some x => some x | none => upF f (c - (k + 1)) (k + 1)) = _
  rw [hf]
theorem upF_some {α : Type} {f : Nat → Option α} {c k : Nat} {y : α} (hc : k < c) (hf : f k = some y) : upF f (c - k) k = some y := by
  rw [show c - k = (c - (k + 1)) + 1 by omega]
  show (match f k with | some x => some x | none => upF f (c - (k + 1)) (k + 1)) = _
  rw [hf]
abbrev o37 (a : Acc) : List (Nat × AO) := [(7, .cells [.fn (.func 76) [] [.ptr 6 0, .ptr 1 0, .ptr 5 0, .ptr 7 0]]), (5, .cells [.p (.sl ((truthsL a).reverse.map encL))]), (1, .cells (cA a))]
theorem wk37 {a : Acc} : ∀ k, k ≠ 6 → O (o37 a) k = none ∨ O (o37 a) k = O [(7, .cells [.fn (.func 76) [] [.ptr 6 0, .ptr 1 0, .ptr 5 0, .ptr 7 0]]), (7, .cells [.p (.val .nilFunc)]), (6, .cells [.p (.val (.slice none 0 0))]), (5, .cells [.p (.sl ((truthsL a).reverse.map encL))]), (5, .cells [.p (.val (.slice none 0 0))]), (1, .cells (cA a))] k := fun k hk => by
  simp only [O_cons, O_nil]
  by_cases h7 : k = 7
  · simp [h7]
  · by_cases h5 : k = 5
    · simp [h5]
    · by_cases h1 : k = 1
      · simp [h1]
      · simp [h7, h5, h1]
theorem closed37 {a : Acc} : (Hp (upd (O (o37 a)) 6 (some (.cells [.undef])))).closed := closed_mk (l := []) (m := (6, .cells [.undef]) :: o37 a) rfl rfl
theorem truths_nil {a : Acc} (h : ((truthsL a).reverse.length : Int) = 0) : (truthsL a).isEmpty = true := by
  cases hl : truthsL a with
  | nil => rfl
  | cons x l => rw [hl] at h; simp at h; omega
theorem truths_cons {a : Acc} (h : ¬ ((truthsL a).reverse.length : Int) = 0) : ¬ (truthsL a).isEmpty = true := by
  cases hl : truthsL a with
  | nil => rw [hl] at h; simp at h
  | cons x l => simp
theorem c37 (a : Acc) (hl1 : a.rates.length < 1000000) (hl2 : a.entries.length < 1000000) (hin : ∀ e ∈ a.entries, inR e.lo = true ∧ inR e.hi = true) : PCall Go.Proofs.Try.prog 37 [avA a] (paysA a) := by
  refine pcall_mk (v := []) (q := []) (N := 35) (rs := [.tmp 2, .tmp 3]) Go.Proofs.Try.func37 rfl rfl rfl rfl (paysA_isP a) ?_
  refine awp_seq_k fun K1 hK1 => ?_
  refine awp_ops ?_
  simp (disch := omega) only [amL, sA, ↓reduceIte]
  refine hK1 _ ?_
  refine awp_scope ?_
  refine awp_seq_k fun K2 hK2 => ?_
  refine awp_seq_k fun K3 hK3 => ?_
  refine awp_ops ?_
  simp (disch := omega) only [amL, amT, sA, sB, sF, ↓reduceIte]
  repeat' first | (refine EC_intro (by kernel_rfl) rfl (c25 a hl1 hl2 hin) (by first | exact .inl rfl | exact .inr (.inl rfl)) ?_ ; simp (disch := omega) only [amL, sA, ↓reduceIte])
  refine hK3 _ ?_
  refine awp_seq_k fun K4 hK4 => ?_
  refine awp_ops ?_
  simp (disch := omega) only [ne_eq, amL, amT, sA, ↓reduceIte]
  refine hK4 _ ?_
  refine awp_cond rfl (fun h => ?_) (fun h => ?_)
  ·first
   | exact Bool.noConfusion h
   |skip
    try simp only [Bool.not_eq_true', decide_eq_false_iff_not, decide_not] at h
    refine awp_seq_k fun K5 hK5 => ?_
    refine awp_ops ?_
    simp (disch := omega) only [amL, sA, sF, ↓reduceIte]
    refine hK5 _ ?_
    refine awp_ret ?_
    try simp (disch := omega) only [amL, sF, ↓reduceIte]
    first
      | (rw [paysA, if_neg (by assumption)]; done)
      | (rw [paysA, if_pos (by assumption), if_pos (truths_nil (by assumption))]; done)
      | (rw [paysA, if_pos hf, if_neg (truths_cons (by assumption)), hx0, show (a.last + 2).toNat - k = 0 by omega]; rfl)
      | (have hpay : paysL a = some ds := by rw [hx0]; exact upF_some (by omega) hrv
         rw [paysA, if_pos hf, if_neg (truths_cons (by assumption)), hpay]
         rcases hdv with ⟨rfl, rfl⟩ | ⟨nd, rfl, od, hne⟩
         · rfl
         · rw [view_own od]
           cases ds with
           | nil => exact absurd rfl hne
           | cons x l => rfl)
      | (omega)
  ·first
   | exact Bool.noConfusion h
   |skip
    try simp only [decide_eq_true_eq, Bool.not_eq_false', decide_not] at h
    refine awp_skip ?_
    refine hK2 _ ?_
    refine awp_seq_k fun K6 hK6 => ?_
    refine awp_ops ?_
    simp (disch := omega) only [amL, amT, sA, sB, sF, ↓reduceIte]
    repeat' first | (refine EC_intro (by kernel_rfl) rfl (c75 a (by omega)) (by first | exact .inl rfl | exact .inr (.inl rfl)) ?_ ; simp (disch := omega) only [amL, amT, sA, sF, ↓reduceIte])
    refine hK6 _ ?_
    refine awp_seq_k fun K7 hK7 => ?_
    refine awp_seq_k fun K8 hK8 => ?_
    refine awp_ops ?_
    simp (disch := omega) only [amL, amT, sA, ↓reduceIte]
    refine hK8 _ ?_
    refine awp_cond rfl (fun h => ?_) (fun h => ?_)
    ·first
     | exact Bool.noConfusion h
     |skip
      try simp only [decide_eq_true_eq] at h
      refine awp_seq_k fun K9 hK9 => ?_
      refine awp_ops ?_
      simp (disch := omega) only [amL, sA]
      refine hK9 _ ?_
      refine awp_ret ?_
      try simp (disch := omega) only [amL, sF, ↓reduceIte]
      first
        | (rw [paysA, if_neg (by assumption)]; done)
        | (rw [paysA, if_pos (by assumption), if_pos (truths_nil (by assumption))]; done)
        | (rw [paysA, if_pos hf, if_neg (truths_cons (by assumption)), hx0, show (a.last + 2).toNat - k = 0 by omega]; rfl)
        | (have hpay : paysL a = some ds := by rw [hx0]; exact upF_some (by omega) hrv
           rw [paysA, if_pos hf, if_neg (truths_cons (by assumption)), hpay]
           rcases hdv with ⟨rfl, rfl⟩ | ⟨nd, rfl, od, hne⟩
           · rfl
           · rw [view_own od]
             cases ds with
             | nil => exact absurd rfl hne
             | cons x l => rfl)
        | (omega)
    ·first
     | exact Bool.noConfusion h
     |skip
      try simp only [decide_eq_false_iff_not] at h
      refine awp_skip ?_
      refine hK7 _ ?_
      refine awp_seq_k fun K10 hK10 => ?_
      refine awp_ops ?_
      simp (disch := omega) only [amL, amT, sA, sF, ↓reduceIte]
      refine hK10 _ ?_
      refine awp_seq_k fun K11 hK11 => ?_
      refine awp_ops ?_
      simp (disch := omega) only [amL, amT, sA, sF, ↓reduceIte]
      refine hK11 _ ?_
      refine awp_seq_k fun K12 hK12 => ?_
      refine awp_ops ?_
      simp (disch := omega) only [amL, amT, sA, sF, ↓reduceIte]
      refine hK12 _ ?_
      refine awp_seq_k fun K13 hK13 => ?_
      refine awp_ops ?_
      simp (disch := omega) only [amL, sA]
      refine hK13 _ ?_
      refine awp_seq_k fun K14 hK14 => ?_
      refine awp_label ?_
      refine hK14 _ ?_
      refine awp_seq_k fun K15 hK15 => ?_
      refine awp_seq_k fun K16 hK16 => ?_
      refine awp_ops ?_
      have hf : faultS a = 0 := by omega
      obtain ⟨_, _, z3, _, _, _⟩ := fault_zero hf
      simp only [inB, Bool.and_eq_true, decide_eq_true_eq] at z3
      simp (disch := omega) only [amL, amT, sA, sF, ↓reduceIte, reduceCtorEq]
      refine hK16 _ ?_
      refine awp_block ?_
      refine AWP.from_wk (s1 := ⟨T [(1, .ptr 1 0), (5, .ptr 5 0), (6, .ptr 6 0), (7, .ptr 7 0), (8, bl false), (23, i64 (a.last + 2)), (24, i64 0)], upd (O (o37 a)) 6 (some (.cells [.undef]))⟩) (wk_forget ?_ ?_ closed37 (x := .p (.val (.slice none 0 0))) rfl wk37) ?_
      all_goals try (simp (disch := omega) only [amL, sF, ↓reduceIte]; done)
      refine awp_loop_k (α := Nat) (fun k => ⟨T [(1, .ptr 1 0), (5, .ptr 5 0), (6, .ptr 6 0), (7, .ptr 7 0), (8, bl false), (23, i64 (a.last + 2)), (24, i64 (k : Int))], O [(6, .cells [.undef]), (7, .cells [.fn (.func 76) [] [.ptr 6 0, .ptr 1 0, .ptr 5 0, .ptr 7 0]]), (5, .cells [.p (.sl ((truthsL a).reverse.map encL))]), (1, .cells (cA a))]⟩) (fun k => (a.last + 2).toNat - k) (fun k => k ≤ (a.last + 2).toNat ∧ paysL a = upF (fun m => payF (good a) a.last m [] 0) ((a.last + 2).toNat - k) k) 0 ?_ ?_ (fun k hx17 K17 hK17 => ?_)
      · exact ⟨by omega, rfl⟩
      · refine le_mk ?_ ?_ ?_ ?_ <;> (try simp (disch := omega) only [amL, sF, sG, ↓reduceIte])
      have hx0 := hx17.2; have hk := hx17.1
      refine awp_seq_k fun K18 hK18 => ?_
      refine awp_ops ?_
      simp (disch := omega) only [amL, amT, sA, sF, ↓reduceIte]
      refine hK18 _ ?_
      refine awp_seq_k fun K19 hK19 => ?_
      refine awp_cond rfl (fun h => ?_) (fun h => ?_)
      ·first
       | exact Bool.noConfusion h
       |skip
        try simp only [decide_eq_true_eq] at h
        refine awp_skip ?_
        refine hK19 _ ?_
        refine awp_seq_k fun K20 hK20 => ?_
        refine awp_block ?_
        refine awp_seq_k fun K21 hK21 => ?_
        refine awp_ops ?_
        simp (disch := omega) only [amL, sA, sF, ↓reduceIte]
        refine hK21 _ ?_
        refine awp_seq_k fun K22 hK22 => ?_
        refine awp_ops ?_
        simp (disch := omega) only [amL, amT, sA, sF, ↓reduceIte]
        refine EV_intro2 [(1, .ptr 1 0), (5, .ptr 5 0), (6, .ptr 6 0), (7, .ptr 7 0), (8, bl false), (23, i64 (a.last + 2)), (24, i64 (k : Int))] (by decide) (c76 (bd := 35) hf k [] 0 (.p (.val (.slice none 0 0))) _ ⟨⟨_, rfl⟩, rfl, rfl, rfl, by decide, by decide, by decide⟩ (.inl ⟨rfl, rfl⟩) (by omega) (by simp; omega) (by omega) (by omega)) (T_get_none rfl) (by decide) (fun res os2 hR hcl2 hlv2 => ?_)
        obtain ⟨rfl, hR⟩ := hR
        generalize hrv : payF (good a) a.last k [] 0 = rv at hR ⊢
        have hsm : ∀ q, q < 35 → q ≠ 6 → os2 q = O (o37 a) q := fun q h1 h2 => by
          cases rv with
          | none =>
            have hR : os2 = _ := hR
            rw [hR, upd_ne h2]
            show (if q = 6 then _ else O (o37 a) q) = _
            rw [if_neg h2]
          | some ds =>
            rw [hR.2 q h1 h2]
            show (if q = 6 then _ else O (o37 a) q) = _
            rw [if_neg h2]
        have hFs : (os2 6).isSome = true := by
          cases rv with
          | none =>
            have hR : os2 = _ := hR
            rw [hR, upd_eq]; rfl
          | some ds => obtain ⟨⟨_, h1, _⟩, _⟩ := hR; rw [h1]; rfl
        have r1 : os2 1 = some (.cells (cA a)) := (hsm 1 (by decide) (by decide)).trans rfl
        have r5 : os2 5 = some (.cells [.p (.sl ((truthsL a).reverse.map encL))]) := (hsm 5 (by decide) (by decide)).trans rfl
        have r7 : os2 7 = some (.cells [.fn (.func 76) [] [.ptr 6 0, .ptr 1 0, .ptr 5 0, .ptr 7 0]]) := (hsm 7 (by decide) (by decide)).trans rfl
        simp (disch := omega) only [amL, sA, sF, ↓reduceIte]
        refine ⟨⟨by rw [r1]; rfl, by rw [r5]; rfl, hFs, by rw [r7]; rfl⟩, ?_⟩
        rcases rv with _ | ds
        all_goals simp only [Option.isSome_none, Option.isSome_some]
        all_goals
         skip
         refine hK22 _ ?_
         refine awp_seq_k fun K23 hK23 => ?_
         refine awp_ops ?_
         simp (disch := omega) only [amL, sA, ↓reduceIte]
         refine hK23 _ ?_
         refine awp_cond rfl (fun h => ?_) (fun h => ?_)
         ·first
          | exact Bool.noConfusion h
          |skip
           try simp only [] at h
           refine awp_exit ?_
           refine hK15 _ ?_
           refine awp_seq_k fun K24 hK24 => ?_
           refine awp_seq_k fun K25 hK25 => ?_
           refine awp_ops ?_
           try (obtain ⟨⟨dv, o6, hdv⟩, hsame⟩ := hR)
           simp (disch := omega) only [amL, sA, sF, ↓reduceIte]
           refine hK25 _ ?_
           refine awp_cond rfl (fun h => ?_) (fun h => ?_)
           ·first
            | exact Bool.noConfusion h
            |skip
             try simp only [Bool.not_eq_true', decide_eq_true_eq, decide_eq_false_iff_not, Bool.and_eq_true, Bool.not_eq_false', Bool.not_not, decide_not, Bool.not_true, Bool.not_false] at h
             refine awp_seq_k fun K26 hK26 => ?_
             refine awp_ops ?_
             simp (disch := omega) only [ne_eq, amL, amT, sA, sB, sC, sD, sE, sF, sG, sH, sI, sJ, sK, sL, sM, sN, sO, ↓reduceIte, reduceCtorEq]
             refine hK26 _ ?_
             refine awp_ret ?_
             try simp (disch := omega) only [ne_eq, amL, amT, sA, sB, sC, sD, sE, sF, sG, sH, sI, sJ, sK, sL, sM, sN, sO, ↓reduceIte, reduceCtorEq]
             first
               | (rw [paysA, if_neg (by assumption)]; done)
               | (rw [paysA, if_pos (by assumption), if_pos (truths_nil (by assumption))]; done)
               | (rw [paysA, if_pos hf, if_neg (truths_cons (by assumption)), hx0, show (a.last + 2).toNat - k = 0 by omega]; rfl)
               | (have hpay : paysL a = some ds := by rw [hx0]; exact upF_some (by omega) hrv
                  rw [paysA, if_pos hf, if_neg (truths_cons (by assumption)), hpay]
                  rcases hdv with ⟨rfl, rfl⟩ | ⟨nd, rfl, od, hne⟩
                  · rfl
                  · rw [view_own od]
                    cases ds with
                    | nil => exact absurd rfl hne
                    | cons x l => rfl)
               | (omega)
           ·first
            | exact Bool.noConfusion h
            |skip
             try simp only [] at h
             refine awp_skip ?_
             refine hK24 _ ?_
             refine awp_seq_k fun K27 hK27 => ?_
             refine awp_ops ?_
             simp (disch := omega) only [o6, amL, amT, sA, sF, ↓reduceIte]
             refine hK27 _ ?_
             refine awp_ret ?_
             try simp (disch := omega) only [amL, sF, ↓reduceIte]
             first
               | (rw [paysA, if_neg (by assumption)]; done)
               | (rw [paysA, if_pos (by assumption), if_pos (truths_nil (by assumption))]; done)
               | (rw [paysA, if_pos hf, if_neg (truths_cons (by assumption)), hx0, show (a.last + 2).toNat - k = 0 by omega]; rfl)
               | (have hpay : paysL a = some ds := by rw [hx0]; exact upF_some (by omega) hrv
                  rw [paysA, if_pos hf, if_neg (truths_cons (by assumption)), hpay]
                  rcases hdv with ⟨rfl, rfl⟩ | ⟨nd, rfl, od, hne⟩
                  · rfl
                  · rw [view_own od]
                    cases ds with
                    | nil => exact absurd rfl hne
                    | cons x l => rfl)
               | (omega)
         ·first
          | exact Bool.noConfusion h
          |skip
           try simp only [] at h
           refine awp_skip ?_
           refine hK20 _ ?_
           refine awp_ops ?_
           simp (disch := omega) only [amL, amT, sA, sF, ↓reduceIte]
           refine hK17 (k+1) _ ?_ ?_ (le_mk ?_ ?_ ?_ ?_)
           all_goals (try simp (disch := omega) only [amL, sF, sG, ↓reduceIte])
           all_goals first | omega | exact ⟨by omega, by rw [hx0]; exact upF_next (by omega) hrv⟩ | exact ⟨by rw [show os2 = upd _ _ _ from hR, upd_eq], r7, r5, r1⟩ | (omega)
      ·first
       | exact Bool.noConfusion h
       |skip
        try simp only [decide_eq_false_iff_not] at h
        refine awp_exit ?_
        refine hK15 _ ?_
        refine awp_seq_k fun K28 hK28 => ?_
        refine awp_seq_k fun K29 hK29 => ?_
        refine awp_ops ?_
        try (obtain ⟨⟨dv, o6, hdv⟩, hsame⟩ := hR)
        simp (disch := omega) only [amL, sA, sF, ↓reduceIte]
        refine hK29 _ ?_
        refine awp_cond rfl (fun h => ?_) (fun h => ?_)
        ·first
         | exact Bool.noConfusion h
         |skip
          try simp only [] at h
          refine awp_seq_k fun K30 hK30 => ?_
          refine awp_ops ?_
          simp (disch := omega) only [amL, sA]
          refine hK30 _ ?_
          refine awp_ret ?_
          try simp (disch := omega) only [amL, sF, ↓reduceIte]
          first
            | (rw [paysA, if_neg (by assumption)]; done)
            | (rw [paysA, if_pos (by assumption), if_pos (truths_nil (by assumption))]; done)
            | (rw [paysA, if_pos hf, if_neg (truths_cons (by assumption)), hx0, show (a.last + 2).toNat - k = 0 by omega]; rfl)
            | (have hpay : paysL a = some ds := by rw [hx0]; exact upF_some (by omega) hrv
               rw [paysA, if_pos hf, if_neg (truths_cons (by assumption)), hpay]
               rcases hdv with ⟨rfl, rfl⟩ | ⟨nd, rfl, od, hne⟩
               · rfl
               · rw [view_own od]
                 cases ds with
                 | nil => exact absurd rfl hne
                 | cons x l => rfl)
            | (omega)
        ·first
         | exact Bool.noConfusion h
         |skip
          try simp only [Bool.not_eq_true', decide_eq_true_eq, decide_eq_false_iff_not, Bool.and_eq_true, Bool.not_eq_false', Bool.not_not, decide_not, Bool.not_true, Bool.not_false] at h
          refine awp_skip ?_
          refine hK28 _ ?_
          refine awp_seq_k fun K31 hK31 => ?_
          refine awp_ops ?_
          simp (disch := omega) only [o6, ne_eq, amL, amT, sA, sB, sC, sD, sE, sF, sG, sH, sI, sJ, sK, sL, sM, sN, sO, ↓reduceIte, reduceCtorEq]
          refine hK31 _ ?_
          refine awp_ret ?_
          try simp (disch := omega) only [ne_eq, amL, amT, sA, sB, sC, sD, sE, sF, sG, sH, sI, sJ, sK, sL, sM, sN, sO, ↓reduceIte, reduceCtorEq]
          first
            | (rw [paysA, if_neg (by assumption)]; done)
            | (rw [paysA, if_pos (by assumption), if_pos (truths_nil (by assumption))]; done)
            | (rw [paysA, if_pos hf, if_neg (truths_cons (by assumption)), hx0, show (a.last + 2).toNat - k = 0 by omega]; rfl)
            | (have hpay : paysL a = some ds := by rw [hx0]; exact upF_some (by omega) hrv
               rw [paysA, if_pos hf, if_neg (truths_cons (by assumption)), hpay]
               rcases hdv with ⟨rfl, rfl⟩ | ⟨nd, rfl, od, hne⟩
               · rfl
               · rw [view_own od]
                 cases ds with
                 | nil => exact absurd rfl hne
                 | cons x l => rfl)
            | (omega)
end AM.Try
end
/- The program: an account without some entries. -/
section
namespace AM.Try
open Go AM AM.Duty
open Nat renaming reduceLT → sA, reduceAdd → sB, reduceMul → sC, reduceSub → sD, reduceLeDiff → sE, reduceEqDiff → sF, reduceBEq → sG
open Int renaming reduceAdd → sH, reduceSub → sI, reduceMul → sJ, reduceLT → sK, reduceLE → sL, reduceNeg → sM, reduceToNat → sN, reduceEq → sO
set_option maxHeartbeats 8000000
set_option maxRecDepth 100000
def woF (out : List Int) : Nat → List Entry → List Entry
  | _, [] => []
  | j, e :: es => if (j : Int) ∈ out then woF out (j + 1) es else e :: woF out (j + 1) es
def withoutP (a : Acc) (out : List Int) : Acc := { a with entries := woF out 0 a.entries }
theorem wo_step {out : List Int} {es : List Entry} {j : Nat} (h : j < es.length) : woF out j (es.drop j) = if (j : Int) ∈ out then woF out (j + 1) (es.drop (j + 1)) else getE es j :: woF out (j + 1) (es.drop (j + 1)) := by
  rw [drop_getD (d := default) h]; rfl
theorem wo_end {out : List Int} {es : List Entry} {j : Nat} (h : es.length ≤ j) : woF out j (es.drop j) = [] := by rw [List.drop_of_length_le h]; rfl
def woS (out : List Int) (es : List Entry) (j : Nat) (acc : List Entry) : List Entry := if (j : Int) ∈ out then acc else acc ++ [getE es j]
theorem wo_next {out : List Int} {es acc : List Entry} {j : Nat} {R : List Entry} (h : j < es.length) (hc : acc.length ≤ j) (hw : acc ++ woF out j (es.drop j) = R) : j + 1 ≤ es.length ∧ (woS out es j acc).length ≤ j + 1 ∧ woS out es j acc ++ woF out (j + 1) (es.drop (j + 1)) = R := by
  rw [wo_step h] at hw
  unfold woS
  split
  · rename_i hj; rw [if_pos hj] at hw; exact ⟨h, by omega, hw⟩
  · rename_i hj; rw [if_neg hj] at hw; exact ⟨h, by simp; omega, by rw [← hw]; simp⟩
theorem wo_in {out : List Int} {es acc : List Entry} {j : Nat} (h : (j : Int) ∈ out) : woS out es j acc = acc := if_pos h
theorem wo_out {out : List Int} {es acc : List Entry} {j : Nat} (h : ¬ (j : Int) ∈ out) : woS out es j acc = acc ++ [getE es j] := if_neg h
theorem c80 (a : Acc) (out : List Int) (hl2 : a.entries.length < 1000000) (ho : out.length < 1000000) : PCall Go.Proofs.Try.prog 80 [avA a, isl out] (avA (withoutP a out)) := by
  refine pcall_mk (v := []) (q := []) (N := 30) (rs := [.cell 4 35]) Go.Proofs.Try.func80 rfl rfl rfl rfl rfl ?_
  refine awp_seq_k fun K1 hK1 => ?_
  refine awp_ops ?_
  simp (disch := omega) only [amL, amT, sA, sB, sF, ↓reduceIte]
  refine hK1 _ ?_
  refine awp_seq_k fun K2 hK2 => ?_
  refine awp_ops ?_
  simp (disch := omega) only [amL, amT, sA, sB, sF, ↓reduceIte]
  refine hK2 _ ?_
  refine awp_seq_k fun K3 hK3 => ?_
  refine awp_ops ?_
  simp (disch := omega) only [amL, amT, sA, sB, ↓reduceIte, reduceCtorEq]
  refine hK3 _ ?_
  refine awp_seq_k fun K4 hK4 => ?_
  refine awp_seq_k fun K5 hK5 => ?_
  refine awp_ops ?_
  simp (disch := omega) only [amL, amT, sA, sF, ↓reduceIte, reduceCtorEq]
  refine hK5 _ ?_
  refine awp_block ?_
  refine awp_adoptC' 26 5 5 5 (by decide) rfl rfl rfl ?_
  refine awp_loop_k (α := Nat × List Entry) (fun x => ⟨T [(1, isl out), (2, .ptr 2 0), (4, .ptr 4 0), (5, .ptr 5 0), (11, .p (.sl (a.entries.map encE))), (12, i64 (a.entries.length : Int)), (13, i64 (x.1 : Int))], O [(5, .cells [i64 a.last, i64 a.interest, i64 a.bond, i64 a.purse, .p (.sl (a.rates.map encR)), .own 26 x.2.length]), (26, .arr 5 (x.2.map encE)), (2, .cells (cA a)), (4, .cells [i64 0, i64 0, i64 0, i64 0, .p (.val (.slice none 0 0)), .p (.val (.slice none 0 0))])]⟩) (fun x => a.entries.length - x.1) (fun x => x.1 ≤ a.entries.length ∧ x.2.length ≤ x.1 ∧ x.2 ++ woF out x.1 (a.entries.drop x.1) = woF out 0 a.entries) (0, []) ?_ ?_ (fun x hx6 K6 hK6 => ?_)
  · exact ⟨by omega, by simp, rfl⟩
  · refine le_mk ?_ ?_ ?_ ?_ <;> (try simp (disch := omega) only [amL, sF, sG, ↓reduceIte, reduceCtorEq])
  obtain ⟨j, acc⟩ := x; dsimp only at hx6 ⊢; obtain ⟨hj, hc, hw⟩ := hx6
  refine awp_seq_k fun K7 hK7 => ?_
  refine awp_ops ?_
  simp (disch := omega) only [amL, amT, sA, sF, ↓reduceIte]
  refine hK7 _ ?_
  refine awp_seq_k fun K8 hK8 => ?_
  refine awp_cond rfl (fun h => ?_) (fun h => ?_)
  ·first
   | exact Bool.noConfusion h
   |skip
    try simp only [decide_eq_true_eq] at h
    refine awp_skip ?_
    refine hK8 _ ?_
    refine awp_seq_k fun K9 hK9 => ?_
    refine awp_block ?_
    refine awp_seq_k fun K10 hK10 => ?_
    refine awp_ops ?_
    simp (disch := omega) only [encE_getD, amL, amT, sA, sB, sF, ↓reduceIte]
    refine hK10 _ ?_
    refine awp_seq_k fun K11 hK11 => ?_
    refine awp_ops ?_
    simp (disch := omega) only [amL, sA, sF, ↓reduceIte]
    repeat' first | (refine EC_intro (by kernel_rfl) rfl (c83 out _ ho) (by first | exact .inl rfl | exact .inr (.inl rfl)) ?_ ; simp (disch := omega) only [amL, sA, ↓reduceIte])
    refine hK11 _ ?_
    refine awp_cond rfl (fun h => ?_) (fun h => ?_)
    ·first
     | exact Bool.noConfusion h
     |skip
      try simp only [Bool.not_eq_true', decide_eq_false_iff_not] at h
      refine awp_ops ?_
      simp (disch := omega) only [amL, amT, sA, sB, sC, sE, sF, ↓reduceIte, reduceCtorEq]
      refine hK9 _ ?_
      refine awp_ops ?_
      simp (disch := omega) only [amL, amT, sA, sF, ↓reduceIte]
      refine hK6 (j+1, woS out a.entries j acc) _ ?_ ?_ (le_mk ?_ ?_ ?_ ?_)
      all_goals (try simp (disch := omega) only [amL, sF, sG, ↓reduceIte])
      all_goals first | omega | exact wo_next (by omega) hc hw | (rw [wo_in (by assumption)]; exact ⟨rfl, rfl⟩) | (rw [wo_out (by assumption)]; refine ⟨?_, ?_⟩ <;> simp) | (omega)
    ·first
     | exact Bool.noConfusion h
     |skip
      try simp only [decide_eq_true_eq, Bool.not_eq_false'] at h
      refine awp_skip ?_
      refine hK9 _ ?_
      refine awp_ops ?_
      simp (disch := omega) only [amL, amT, sA, sF, ↓reduceIte]
      refine hK6 (j+1, woS out a.entries j acc) _ ?_ ?_ (le_mk ?_ ?_ ?_ ?_)
      all_goals (try simp (disch := omega) only [amL, sF, sG, ↓reduceIte])
      all_goals first | omega | exact wo_next (by omega) hc hw | (rw [wo_in (by assumption)]; exact ⟨rfl, rfl⟩) | (rw [wo_out (by assumption)]; refine ⟨?_, ?_⟩ <;> simp) | (omega)
  ·first
   | exact Bool.noConfusion h
   |skip
    try simp only [decide_eq_false_iff_not] at h
    refine awp_exit ?_
    refine hK4 _ ?_
    refine awp_seq_k fun K12 hK12 => ?_
    refine awp_ops ?_
    simp (disch := omega) only [amL, amT, sB, sF, ↓reduceIte]
    refine hK12 _ ?_
    refine awp_ret ?_
    try simp (disch := omega) only [amL, amT, sB, sF, ↓reduceIte]
    rw [wo_end (by omega), List.append_nil] at hw; rw [List.take_of_length_le (by simp), hw]; rfl
end AM.Try
end
/- The program: an account without some entries; the list may be one's own. -/
section
namespace AM.Try
open Go AM AM.Duty
open Nat renaming reduceLT → sA, reduceAdd → sB, reduceMul → sC, reduceSub → sD, reduceLeDiff → sE, reduceEqDiff → sF, reduceBEq → sG
open Int renaming reduceAdd → sH, reduceSub → sI, reduceMul → sJ, reduceLT → sK, reduceLE → sL, reduceNeg → sM, reduceToNat → sN, reduceEq → sO
set_option maxHeartbeats 8000000
set_option maxRecDepth 100000
abbrev c80c (a : Acc) (bd : Nat) (acc : List Entry) : AO := .cells [i64 a.last, i64 a.interest, i64 a.bond, i64 a.purse, .p (.sl (a.rates.map encR)), .own (bd + 26) acc.length]
abbrev c80c' (a : Acc) (bd : Nat) (k : Nat) : AO := .cells [i64 a.last, i64 a.interest, i64 a.bond, i64 a.purse, .p (.sl (a.rates.map encR)), .own (bd + 26) k]
def o80 (a : Acc) (os : Nat → Option AO) (bd : Nat) (acc : List Entry) : Nat → Option AO := upd (upd (upd (upd os (bd + 2) (some (.cells (cA a)))) (bd + 4) (some (.cells [i64 0, i64 0, i64 0, i64 0, .p (.val (.slice none 0 0)), .p (.val (.slice none 0 0))]))) (bd + 26) (some (.arr 5 (acc.map encE)))) (bd + 5) (some (c80c a bd acc))
theorem sub80 {a : Acc} {os f : Nat → Option AO} {bd : Nat} {acc : List Entry} (hfree : ∀ n, bd ≤ n → os n = none) (h2 : f (bd + 2) = some (.cells (cA a))) (h4 : f (bd + 4) = some (.cells [i64 0, i64 0, i64 0, i64 0, .p (.val (.slice none 0 0)), .p (.val (.slice none 0 0))])) (h26 : f (bd + 26) = some (.arr 5 (acc.map encE))) (h5 : f (bd + 5) = some (c80c a bd acc)) (hq : ∀ q, q < bd → f q = os q) : Sub (o80 a os bd acc) f := fun q => by
  unfold o80
  by_cases e5 : q = bd + 5
  · subst e5; right; rw [upd_eq, h5]
  · rw [upd_ne e5]
    by_cases e26 : q = bd + 26
    · subst e26; right; rw [upd_eq, h26]
    · rw [upd_ne e26]
      by_cases e4 : q = bd + 4
      · subst e4; right; rw [upd_eq, h4]
      · rw [upd_ne e4]
        by_cases e2 : q = bd + 2
        · subst e2; right; rw [upd_eq, h2]
        · rw [upd_ne e2]
          cases Nat.lt_or_ge q bd with
          | inl h => exact .inr (hq q h).symm
          | inr h => exact .inl (hfree q h)
theorem closed80 {a : Acc} {os : Nat → Option AO} {bd : Nat} {acc : List Entry} (hcl : (Hp os).closed) : (Hp (o80 a os bd acc)).closed := by
  refine closed_upd (closed_upd (closed_upd (closed_upd hcl ?_) ?_) (by rw [lives_arr_eq]; trivial)) ?_
  · rw [lives_cells_eq]; simp only [livesL_nil, livesL_cons, lives_p_eq, and_self]
  · rw [lives_cells_eq]; simp only [livesL_nil, livesL_cons, lives_p_eq, and_self]
  · rw [lives_cells_eq]; simp (disch := omega) only [livesL_nil, livesL_cons, lives_p_eq, lives_own_eq, upd_ne, upd_eq, Option.isSome_some, and_self]
theorem o80_2 {a : Acc} {os : Nat → Option AO} {bd : Nat} {acc : List Entry} : o80 a os bd acc (bd + 2) = some (.cells (cA a)) := by unfold o80; simp (disch := omega) only [upd_ne, upd_eq]
theorem o80_4 {a : Acc} {os : Nat → Option AO} {bd : Nat} {acc : List Entry} : o80 a os bd acc (bd + 4) = some (.cells [i64 0, i64 0, i64 0, i64 0, .p (.val (.slice none 0 0)), .p (.val (.slice none 0 0))]) := by unfold o80; simp (disch := omega) only [upd_ne, upd_eq]
theorem o80_26 {a : Acc} {os : Nat → Option AO} {bd : Nat} {acc : List Entry} : o80 a os bd acc (bd + 26) = some (.arr 5 (acc.map encE)) := by unfold o80; simp (disch := omega) only [upd_ne, upd_eq]
theorem o80_5 {a : Acc} {os : Nat → Option AO} {bd : Nat} {acc : List Entry} : o80 a os bd acc (bd + 5) = some (c80c a bd acc) := by unfold o80; rw [upd_eq]
theorem o80_q {a : Acc} {os : Nat → Option AO} {bd : Nat} {acc : List Entry} {q : Nat} (h : q ≠ bd + 2 ∧ q ≠ bd + 4 ∧ q ≠ bd + 5 ∧ q ≠ bd + 26) : o80 a os bd acc q = os q := by unfold o80; simp (disch := omega) only [upd_ne]
theorem pg_old {os : Nat → Option AO} {bd b q : Nat} (hcl : (Hp os).closed) (hfree : ∀ n, bd ≤ n → os n = none) (_hq : q < bd) (hb : bd ≤ b) : (os q).map (AO.purge b) = os q := by
  cases ho : os q with
  | none => rfl
  | some o => rw [Option.map_some, purgeO_id (cleanO_of_none (hcl.2 q o ho) (hfree _ hb))]
theorem subOut {a : Acc} {os : Nat → Option AO} {bd : Nat} {acc : List Entry} {e : Entry} {x y z : Option AO} (hcl : (Hp os).closed) (hfree : ∀ n, bd ≤ n → os n = none) :
    Sub (o80 a os bd (acc ++ [e])) (upd (upd (pg (bd + 26) (upd (upd (upd (o80 a os bd acc) (bd + 7) x) (bd + 7) y) (bd + 25) z)) (bd + 26) (some (.arr 5 (acc.map encE ++ [encE e])))) (bd + 5) (some (c80c' a bd (acc.length + 1)))) := by
  refine sub80 hfree ?_ ?_ ?_ ?_ (fun q hq => ?_)
  · simp (disch := omega) only [upd_ne, pg_ne, o80_2, Option.map_some, purge_cells, List.map_cons, List.map_nil, purge_p]
  · simp (disch := omega) only [upd_ne, pg_ne, o80_4, Option.map_some, purge_cells, List.map_cons, List.map_nil, purge_p]
  · simp (disch := omega) only [upd_ne, upd_eq, List.map_append, List.map_cons, List.map_nil]
  · simp (disch := omega) only [upd_eq, List.length_append, List.length_cons, List.length_nil, c80c]
  · simp (disch := omega) only [upd_ne, pg_ne, o80_q]; exact pg_old hcl hfree hq (by omega)
theorem sub80o {a : Acc} {os : Nat → Option AO} {bd : Nat} {acc : List Entry} {x : Option AO} (_hcl : (Hp os).closed) (hfree : ∀ n, bd ≤ n → os n = none) :
    Sub (upd os (bd + 26) (some (.arr 5 (acc.map encE)))) (upd (o80 a os bd acc) (bd + 4) x) := fun q => by
  by_cases e : q = bd + 26
  · subst e; right; simp (disch := omega) only [upd_ne, upd_eq, o80_26]
  · rw [upd_ne e]
    cases Nat.lt_or_ge q bd with
    | inl h => right; simp (disch := omega) only [upd_ne, o80_q]
    | inr h => exact .inl (hfree q h)
theorem closed80r {os : Nat → Option AO} {bd : Nat} {acc : List Entry} (hcl : (Hp os).closed) : (Hp (upd os (bd + 26) (some (.arr 5 (acc.map encE))))).closed := closed_upd hcl (by rw [lives_arr_eq]; trivial)
theorem resRaws_cell {P : Program} {s : St} {i : Nat} {ty : TypeId} {n off : Nat} {g : Bool} {cs : List AV} (h1 : s.t i = .ptr n off) (h2 : (tyOf P ty).agg = some g) (h3 : s.o n = some (.cells cs)) : (resRaws P s [.cell i ty]).map resOf = takeCells g (tyOf P ty).sz (cs.drop off) := by
  simp only [resRaws, resRaw, h1, h2, h3]
  cases takeCells g (tyOf P ty).sz (cs.drop off) <;> rfl
theorem c80o {a : Acc} {out : List Int} {nd : Nat} {os : Nat → Option AO} {bd : Nat} (hl2 : a.entries.length < 1000000) (ho : out.length < 1000000) (od : os nd = some (.arr 1 (out.map encI))) :
    VCall Go.Proofs.Try.prog bd (.fn (.func 80) [] []) [avA a, .own nd out.length] os fun res os' => res = .agg [i64 a.last, i64 a.interest, i64 a.bond, i64 a.purse, .p (.sl (a.rates.map encR)), .own (bd + 26) (woF out 0 a.entries).length] ∧ os' = upd os (bd + 26) (some (.arr 5 ((woF out 0 a.entries).map encE))) := by
  refine vcall_mk (v := []) (q := []) (N := 30) (rs := [.cell 4 35]) Go.Proofs.Try.func80 rfl (by kernel_rfl) rfl rfl (fun hcl hfree => ?_)
  have hfr0 : ∀ k, os (bd + k) = none := fun k => hfree _ (by omega)
  have bnd := lt_of_live hfree od
  refine awp_seq_k fun K1 hK1 => ?_
  refine awp_ops ?_
  simp (disch := omega) only [hfr0, upd_ne, amL, amT, sA, sB, ↓reduceIte]
  refine hK1 _ ?_
  refine awp_seq_k fun K2 hK2 => ?_
  refine awp_ops ?_
  simp (disch := omega) only [hfr0, upd_ne, upd_eq, amL, amT, sA, sB, sF, ↓reduceIte]
  refine hK2 _ ?_
  refine awp_seq_k fun K3 hK3 => ?_
  refine awp_ops ?_
  simp (disch := omega) only [upd_eq, amL, amT, sA, sB, ↓reduceIte, reduceCtorEq]
  refine hK3 _ ?_
  refine awp_seq_k fun K4 hK4 => ?_
  refine awp_seq_k fun K5 hK5 => ?_
  refine awp_ops ?_
  simp (disch := omega) only [upd_ne, upd_eq, amL, amT, sA, sF, ↓reduceIte, reduceCtorEq]
  refine hK5 _ ?_
  refine awp_block ?_
  refine awp_adoptC (bd + 26) 5 (bd + 5) 5 (cs := [i64 a.last, i64 a.interest, i64 a.bond, i64 a.purse, .p (.sl (a.rates.map encR)), .p (.val (.slice none 0 0))]) (by simp only []; omega) (by simp (disch := omega) only [upd_eq]) rfl (by simp (disch := omega) only [upd_ne, hfr0]) ?_
  refine awp_loop_k (α := Nat × List Entry) (fun x => ⟨T [(1, .own nd out.length), (2, .ptr (bd + 2) 0), (4, .ptr (bd + 4) 0), (5, .ptr (bd + 5) 0), (11, .p (.sl (a.entries.map encE))), (12, i64 (a.entries.length : Int)), (13, i64 (x.1 : Int))], o80 a os bd x.2⟩) (fun x => a.entries.length - x.1) (fun x => x.1 ≤ a.entries.length ∧ x.2.length ≤ x.1 ∧ x.2 ++ woF out x.1 (a.entries.drop x.1) = woF out 0 a.entries) (0, []) ?_ ?_ (fun x hx6 K6 hK6 => ?_)
  · exact ⟨by omega, by simp, rfl⟩
  · refine le_os ?_ ?_ ?_ ?_ <;> (try simp (disch := omega) only [o80_2, o80_4, o80_5, o80_q, od, amL, sF, ↓reduceIte, reduceCtorEq]); all_goals first | exact closed80 hcl | exact sub80 hfree (by simp (disch := omega) only [upd_ne, upd_eq]) (by simp (disch := omega) only [upd_ne, upd_eq]) (by simp (disch := omega) only [upd_ne, upd_eq, List.map_nil]) (by simp (disch := omega) only [upd_eq, List.length_nil, c80c]) (fun q hq => by simp (disch := omega) only [upd_ne]) | (omega)
  obtain ⟨j, acc⟩ := x; dsimp only at hx6 ⊢; obtain ⟨hj, hc, hw⟩ := hx6
  refine awp_seq_k fun K7 hK7 => ?_
  refine awp_ops ?_
  simp (disch := omega) only [amL, amT, sA, sF, ↓reduceIte]
  refine hK7 _ ?_
  refine awp_seq_k fun K8 hK8 => ?_
  refine awp_cond rfl (fun h => ?_) (fun h => ?_)
  ·first
   | exact Bool.noConfusion h
   |skip
    try simp only [decide_eq_true_eq] at h
    refine awp_skip ?_
    refine hK8 _ ?_
    refine awp_seq_k fun K9 hK9 => ?_
    refine awp_block ?_
    refine awp_seq_k fun K10 hK10 => ?_
    refine awp_ops ?_
    simp (disch := omega) only [encE_getD, o80_q, hfr0, upd_eq, amL, amT, sA, sB, sF, ↓reduceIte]
    refine hK10 _ ?_
    refine awp_seq_k fun K11 hK11 => ?_
    refine awp_ops ?_
    simp (disch := omega) only [o80_q, upd_ne, od, take_enc, amL, sA, sF, ↓reduceIte]
    repeat' first | (refine EC_intro (by kernel_rfl) rfl (c83 out _ ho) (by first | exact .inl rfl | exact .inr (.inl rfl)) ?_ ; simp (disch := omega) only [amL, sA, ↓reduceIte])
    refine hK11 _ ?_
    refine awp_cond rfl (fun h => ?_) (fun h => ?_)
    ·first
     | exact Bool.noConfusion h
     |skip
      try simp only [Bool.not_eq_true', decide_eq_false_iff_not] at h
      refine awp_ops ?_
      simp (disch := omega) only [o80_5, o80_26, o80_q, hfr0, upd_ne, upd_eq, purge_os, pg_ne, pg_eq, amL, amT, sA, sB, sC, sE, sF, ↓reduceIte, reduceCtorEq]
      refine hK9 _ ?_
      refine awp_ops ?_
      simp (disch := omega) only [amL, amT, sA, sF, ↓reduceIte]
      refine hK6 (j+1, woS out a.entries j acc) _ ?_ ?_ (le_os ?_ ?_ ?_ ?_)
      all_goals (try simp (disch := omega) only [o80_2, o80_4, o80_5, o80_q, od, amL, sF, ↓reduceIte])
      all_goals first | omega | exact wo_next (by omega) hc hw | exact closed80 hcl | (rw [wo_in (by assumption)]; exact sub80 hfree (by simp (disch := omega) only [upd_ne, upd_eq, o80_2]) (by simp (disch := omega) only [upd_ne, upd_eq, o80_4]) (by simp (disch := omega) only [upd_ne, upd_eq, o80_26]) (by simp (disch := omega) only [upd_ne, upd_eq, o80_5]) (fun q hq => by simp (disch := omega) only [upd_ne, o80_q])) | (rw [wo_out (by assumption)]; exact subOut hcl hfree) | (omega)
    ·first
     | exact Bool.noConfusion h
     |skip
      try simp only [decide_eq_true_eq, Bool.not_eq_false'] at h
      refine awp_skip ?_
      refine hK9 _ ?_
      refine awp_ops ?_
      simp (disch := omega) only [amL, amT, sA, sF, ↓reduceIte]
      refine hK6 (j+1, woS out a.entries j acc) _ ?_ ?_ (le_os ?_ ?_ ?_ ?_)
      all_goals (try simp (disch := omega) only [o80_2, o80_4, o80_5, o80_q, od, amL, sF, ↓reduceIte])
      all_goals first | omega | exact wo_next (by omega) hc hw | exact closed80 hcl | (rw [wo_in (by assumption)]; exact sub80 hfree (by simp (disch := omega) only [upd_ne, o80_2]) (by simp (disch := omega) only [upd_ne, o80_4]) (by simp (disch := omega) only [upd_ne, o80_26]) (by simp (disch := omega) only [upd_ne, o80_5]) (fun q hq => by simp (disch := omega) only [upd_ne, o80_q])) | (rw [wo_out (by assumption)]; exact subOut hcl hfree) | (omega)
  ·first
   | exact Bool.noConfusion h
   |skip
    try simp only [decide_eq_false_iff_not] at h
    refine awp_exit ?_
    refine hK4 _ ?_
    refine awp_seq_k fun K12 hK12 => ?_
    refine awp_ops ?_
    simp (disch := omega) only [o80_4, o80_5, amL, amT, sB, sF, ↓reduceIte]
    refine hK12 _ ?_
    refine awp_ret ?_
    try simp (disch := omega) only [amL]
    rw [wo_end (by omega), List.append_nil] at hw; subst hw; exact retV_mk (res := .agg [i64 a.last, i64 a.interest, i64 a.bond, i64 a.purse, .p (.sl (a.rates.map encR)), .own (bd + 26) (woF out 0 a.entries).length]) _ ((resRaws_cell (g := true) (n := bd + 4) (off := 0) rfl rfl (by exact upd_eq)).trans rfl) (sub80o hcl hfree) (closed80r hcl) (by rw [lives_agg_eq]; simp (disch := omega) only [livesL_nil, livesL_cons, lives_p_eq, lives_own_eq, upd_eq, Option.isSome_some, and_self]) ⟨rfl, rfl⟩
theorem c80n {a : Acc} {os : Nat → Option AO} {bd : Nat} (hl2 : a.entries.length < 1000000) :
    VCall Go.Proofs.Try.prog bd (.fn (.func 80) [] []) [avA a, .p (.val (.slice none 0 0))] os fun res os' => res = .agg [i64 a.last, i64 a.interest, i64 a.bond, i64 a.purse, .p (.sl (a.rates.map encR)), .own (bd + 26) (woF [] 0 a.entries).length] ∧ os' = upd os (bd + 26) (some (.arr 5 ((woF [] 0 a.entries).map encE))) := by
  refine vcall_mk (v := []) (q := []) (N := 30) (rs := [.cell 4 35]) Go.Proofs.Try.func80 rfl (by kernel_rfl) rfl rfl (fun hcl hfree => ?_)
  have hfr0 : ∀ k, os (bd + k) = none := fun k => hfree _ (by omega)
  refine awp_seq_k fun K1 hK1 => ?_
  refine awp_ops ?_
  simp (disch := omega) only [hfr0, upd_ne, amL, amT, sA, sB, ↓reduceIte]
  refine hK1 _ ?_
  refine awp_seq_k fun K2 hK2 => ?_
  refine awp_ops ?_
  simp (disch := omega) only [hfr0, upd_ne, upd_eq, amL, amT, sA, sB, sF, ↓reduceIte]
  refine hK2 _ ?_
  refine awp_seq_k fun K3 hK3 => ?_
  refine awp_ops ?_
  simp (disch := omega) only [upd_eq, amL, amT, sA, sB, ↓reduceIte, reduceCtorEq]
  refine hK3 _ ?_
  refine awp_seq_k fun K4 hK4 => ?_
  refine awp_seq_k fun K5 hK5 => ?_
  refine awp_ops ?_
  simp (disch := omega) only [upd_ne, upd_eq, amL, amT, sA, sF, ↓reduceIte, reduceCtorEq]
  refine hK5 _ ?_
  refine awp_block ?_
  refine awp_adoptC (bd + 26) 5 (bd + 5) 5 (cs := [i64 a.last, i64 a.interest, i64 a.bond, i64 a.purse, .p (.sl (a.rates.map encR)), .p (.val (.slice none 0 0))]) (by simp only []; omega) (by simp (disch := omega) only [upd_eq]) rfl (by simp (disch := omega) only [upd_ne, hfr0]) ?_
  refine awp_loop_k (α := Nat × List Entry) (fun x => ⟨T [(1, .p (.val (.slice none 0 0))), (2, .ptr (bd + 2) 0), (4, .ptr (bd + 4) 0), (5, .ptr (bd + 5) 0), (11, .p (.sl (a.entries.map encE))), (12, i64 (a.entries.length : Int)), (13, i64 (x.1 : Int))], o80 a os bd x.2⟩) (fun x => a.entries.length - x.1) (fun x => x.1 ≤ a.entries.length ∧ x.2.length ≤ x.1 ∧ x.2 ++ woF [] x.1 (a.entries.drop x.1) = woF [] 0 a.entries) (0, []) ?_ ?_ (fun x hx6 K6 hK6 => ?_)
  · exact ⟨by omega, by simp, rfl⟩
  · refine le_os ?_ ?_ ?_ ?_ <;> (try simp (disch := omega) only [o80_2, o80_4, o80_5, amL, sF, ↓reduceIte, reduceCtorEq]); all_goals first | exact closed80 hcl | exact sub80 hfree (by simp (disch := omega) only [upd_ne, upd_eq]) (by simp (disch := omega) only [upd_ne, upd_eq]) (by simp (disch := omega) only [upd_ne, upd_eq, List.map_nil]) (by simp (disch := omega) only [upd_eq, List.length_nil, c80c]) (fun q hq => by simp (disch := omega) only [upd_ne]) | (omega)
  obtain ⟨j, acc⟩ := x; dsimp only at hx6 ⊢; obtain ⟨hj, hc, hw⟩ := hx6
  refine awp_seq_k fun K7 hK7 => ?_
  refine awp_ops ?_
  simp (disch := omega) only [amL, amT, sA, sF, ↓reduceIte]
  refine hK7 _ ?_
  refine awp_seq_k fun K8 hK8 => ?_
  refine awp_cond rfl (fun h => ?_) (fun h => ?_)
  ·first
   | exact Bool.noConfusion h
   |skip
    try simp only [decide_eq_true_eq] at h
    refine awp_skip ?_
    refine hK8 _ ?_
    refine awp_seq_k fun K9 hK9 => ?_
    refine awp_block ?_
    refine awp_seq_k fun K10 hK10 => ?_
    refine awp_ops ?_
    simp (disch := omega) only [encE_getD, o80_q, hfr0, upd_eq, amL, amT, sA, sB, sF, ↓reduceIte]
    refine hK10 _ ?_
    refine awp_seq_k fun K11 hK11 => ?_
    refine awp_ops ?_
    simp (disch := omega) only [amL, sA, sF, ↓reduceIte]
    repeat' first | (refine EC_intro (by kernel_rfl) rfl (PCall.of_nil 0 rfl (c83 [] _ (by simp))) (by first | exact .inl rfl | exact .inr (.inl rfl)) ?_ ; simp (disch := omega) only [amL, sA, ↓reduceIte])
    refine hK11 _ ?_
    refine awp_cond rfl (fun h => ?_) (fun h => ?_)
    ·first
     | exact Bool.noConfusion h
     |skip
      try simp only [Bool.not_eq_true', decide_eq_false_iff_not] at h
      refine awp_ops ?_
      simp (disch := omega) only [o80_5, o80_26, o80_q, hfr0, upd_ne, upd_eq, purge_os, pg_ne, pg_eq, amL, amT, sA, sB, sC, sE, sF, ↓reduceIte, reduceCtorEq]
      refine hK9 _ ?_
      refine awp_ops ?_
      simp (disch := omega) only [amL, amT, sA, sF, ↓reduceIte]
      refine hK6 (j+1, woS [] a.entries j acc) _ ?_ ?_ (le_os ?_ ?_ ?_ ?_)
      all_goals (try simp (disch := omega) only [o80_2, o80_4, o80_5, amL, sF, ↓reduceIte])
      all_goals first | omega | exact wo_next (by omega) hc hw | exact closed80 hcl | (rw [wo_in (by assumption)]; exact sub80 hfree (by simp (disch := omega) only [upd_ne, upd_eq, o80_2]) (by simp (disch := omega) only [upd_ne, upd_eq, o80_4]) (by simp (disch := omega) only [upd_ne, upd_eq, o80_26]) (by simp (disch := omega) only [upd_ne, upd_eq, o80_5]) (fun q hq => by simp (disch := omega) only [upd_ne, o80_q])) | (rw [wo_out (by assumption)]; exact subOut hcl hfree) | (omega)
    ·first
     | exact Bool.noConfusion h
     |skip
      try simp only [Bool.not_eq_true', decide_eq_true_eq, decide_eq_false_iff_not, Bool.and_eq_true, Bool.not_eq_false', Bool.not_not, decide_not, Bool.not_true, Bool.not_false] at h
      refine awp_skip ?_
      refine hK9 _ ?_
      refine awp_ops ?_
      simp (disch := omega) only [encE_getD, o80_2, o80_4, o80_5, o80_26, o80_q, hfr0, upd_ne, upd_eq, purge_os, pg_ne, pg_eq, Option.map_none, amL, amT, sA, sB, sC, sD, sE, sF, sG, sH, sI, sJ, sK, sL, sM, sN, sO, ↓reduceIte, reduceCtorEq]
      refine hK6 (j+1, woS [] a.entries j acc) _ ?_ ?_ (le_os ?_ ?_ ?_ ?_)
      all_goals (try simp (disch := omega) only [encE_getD, o80_2, o80_4, o80_5, o80_26, o80_q, hfr0, upd_ne, upd_eq, purge_os, pg_ne, pg_eq, Option.map_none, amL, amT, sA, sB, sC, sD, sE, sF, sG, sH, sI, sJ, sK, sL, sM, sN, sO, ↓reduceIte, reduceCtorEq])
      all_goals first | omega | exact wo_next (by omega) hc hw | exact closed80 hcl | (rw [wo_in (by assumption)]; exact sub80 hfree (by simp (disch := omega) only [upd_ne, upd_eq, o80_2]) (by simp (disch := omega) only [upd_ne, upd_eq, o80_4]) (by simp (disch := omega) only [upd_ne, upd_eq, o80_26]) (by simp (disch := omega) only [upd_ne, upd_eq, o80_5]) (fun q hq => by simp (disch := omega) only [upd_ne, o80_q])) | (rw [wo_out (by assumption)]; exact subOut hcl hfree) | (omega)
  ·first
   | exact Bool.noConfusion h
   |skip
    try simp only [decide_eq_false_iff_not] at h
    refine awp_exit ?_
    refine hK4 _ ?_
    refine awp_seq_k fun K12 hK12 => ?_
    refine awp_ops ?_
    simp (disch := omega) only [o80_4, o80_5, amL, amT, sB, sF, ↓reduceIte]
    refine hK12 _ ?_
    refine awp_ret ?_
    try simp (disch := omega) only [amL]
    rw [wo_end (by omega), List.append_nil] at hw; subst hw; exact retV_mk (res := .agg [i64 a.last, i64 a.interest, i64 a.bond, i64 a.purse, .p (.sl (a.rates.map encR)), .own (bd + 26) (woF [] 0 a.entries).length]) _ ((resRaws_cell (g := true) (n := bd + 4) (off := 0) rfl rfl (by exact upd_eq)).trans rfl) (sub80o hcl hfree) (closed80r hcl) (by rw [lives_agg_eq]; simp (disch := omega) only [livesL_nil, livesL_cons, lives_p_eq, lives_own_eq, upd_eq, Option.isSome_some, and_self]) ⟨rfl, rfl⟩
end AM.Try
end
/- The program: the smallest set of entries: the search. -/
section
namespace AM.Try
open Go AM AM.Duty
open Nat renaming reduceLT → sA, reduceAdd → sB, reduceMul → sC, reduceSub → sD, reduceLeDiff → sE, reduceEqDiff → sF, reduceBEq → sG
open Int renaming reduceAdd → sH, reduceSub → sI, reduceMul → sJ, reduceLT → sK, reduceLE → sL, reduceNeg → sM, reduceToNat → sN, reduceEq → sO
set_option maxHeartbeats 8000000
set_option maxRecDepth 100000
theorem wo_mem {out : List Int} : ∀ {es : List Entry} {j : Nat} {e : Entry}, e ∈ woF out j es → e ∈ es
  | [], j, e, h => by cases h
  | x :: es, j, e, h => by
    simp only [woF] at h
    split at h
    · exact List.mem_cons_of_mem _ (wo_mem h)
    · rcases List.mem_cons.1 h with h | h
      · rw [h]; simp
      · exact List.mem_cons_of_mem _ (wo_mem h)
theorem wo_len {out : List Int} : ∀ {es : List Entry} {j : Nat}, (woF out j es).length ≤ es.length
  | [], j => Nat.le_refl _
  | x :: es, j => by
    have := @wo_len out es (j + 1)
    simp only [woF]
    split <;> simp only [List.length_cons] <;> omega
theorem wo_many {out : List Int} : ∀ {es : List Entry} {j : Nat}, (∀ e ∈ es, e.lo ≤ e.hi) → many (woF out j es) ≤ many es
  | [], j, _ => Nat.le_refl _
  | x :: es, j, h => by
    have h1 := h x (by simp)
    have h2 := @wo_many out es (j + 1) (fun e he => h e (by simp [he]))
    have h3 : many (x :: es) = (x.hi - x.lo + 1).toNat * many es := rfl
    have h4 : 1 ≤ (x.hi - x.lo + 1).toNat := by omega
    simp only [woF]
    split
    · rw [h3]
      exact Nat.le_trans h2 (Nat.le_mul_of_pos_left _ h4)
    · show (x.hi - x.lo + 1).toNat * many (woF out (j + 1) es) ≤ _
      rw [h3]; exact Nat.mul_le_mul_left _ h2
theorem fault_of {a : Acc} (z1 : a.rates.length ≤ 4) (z2 : a.entries.length ≤ 8) (z3 : (inB a.last 0 11 && (inB a.interest 0 200 && (inB a.bond 0 100000 && inB a.purse 0 100000))) = true) (z4 : ratesS a.last (-1) a.rates = true) (z5 : a.entries.all (isEntry a.last) = true) (z6 : sizes a.entries ≤ 1000) : faultS a = 0 := by
  unfold faultS
  rw [if_neg (by omega), z3, z4, z5, if_neg (by simp), if_neg (by simp), if_neg (by simp), if_neg (by omega)]
theorem take_encE {l : List Entry} : (l.map encE).take l.length = l.map encE := List.take_of_length_le (by simp)
theorem fault_wo {a : Acc} (hf : faultS a = 0) (out : List Int) : faultS (withoutP a out) = 0 := by
  obtain ⟨z1, z2, z3, z4, z5, z6⟩ := fault_zero hf
  have hlo : ∀ e ∈ a.entries, e.lo ≤ e.hi := fun e he => (isEntry_small (List.all_eq_true.1 z5 e he)).2.1
  have h1 : (withoutP a out).entries.length ≤ 8 := Nat.le_trans wo_len z2
  have h5 : (withoutP a out).entries.all (isEntry a.last) = true := List.all_eq_true.2 fun e he => List.all_eq_true.1 z5 e (wo_mem he)
  have h6 : sizes (withoutP a out).entries ≤ 1000 := by
    have e1 := sizes_many (withoutP a out).entries 1 (fun e he => by have := hlo e (wo_mem he); omega)
    have e2 := many_le hf
    have e3 := @wo_many out a.entries 0 hlo
    unfold sizes; rw [e1]
    have e4 : many (withoutP a out).entries ≤ 1000 := Nat.le_trans e3 e2
    omega
  exact fault_of (a := withoutP a out) z1 h1 z3 z4 h5 h6
def upI {α : Type} (f : Int → Option α) : Nat → Int → Option α
  | 0, _ => none
  | c + 1, n => match f n with
    | some x => some x
    | none => upI f c (n + 1)
def leaveF (H : List Int → Bool) (len : Int) : Nat → List Int → Int → Option (List Int)
  | 0, out, _ => if H out = true then some out else none
  | m + 1, out, from' => upI (fun n => leaveF H len m (out ++ [n]) (n + 1)) (len - (m + 1) - from' + 1).toNat from'
abbrev goodL (a : Acc) (out : List Int) : Bool := !(truthsL (withoutP a out)).isEmpty
structure Lv (a : Acc) (nF nA nP : Nat) (os : Nat → Option AO) : Prop where
  oF : ∃ x, os nF = some (.cells [x])
  oA : os nA = some (.cells (cA a))
  oP : os nP = some (.cells [.fn (.func 79) [] [.ptr nF 0, .ptr nA 0, .ptr nP 0]])
  dFA : nF ≠ nA
  dFP : nF ≠ nP
theorem upI_step {α : Type} {f : Int → Option α} {c : Nat} {n : Int} (h : 0 < c) : upI f c n = match f n with | some x => some x | none => upI f (c - 1) (n + 1) := by
  cases c with
  | zero => omega
  | succ c => rfl
theorem upI_next {α : Type} {f : Int → Option α} {c k : Nat} {x : Int} (hc : k < c) (hf : f (x + k) = none) : upI f (c - k) (x + k) = upI f (c - (k + 1)) (x + ((k : Int) + 1)) := by
  rw [upI_step (by omega), hf, show c - k - 1 = c - (k + 1) by omega, show x + (k : Int) + 1 = x + ((k : Int) + 1) by omega]
theorem upI_some {α : Type} {f : Int → Option α} {c k : Nat} {x : Int} {y : α} (hc : k < c) (hf : f (x + k) = some y) : upI f (c - k) (x + k) = some y := by
  rw [upI_step (by omega), hf]
def R80 (a : Acc) (days : List Int) (os : Nat → Option AO) (b : Nat) (res : AV) (os' : Nat → Option AO) : Prop :=
  res = .agg [i64 a.last, i64 a.interest, i64 a.bond, i64 a.purse, .p (.sl (a.rates.map encR)), .own (b + 26) (woF days 0 a.entries).length] ∧ os' = upd os (b + 26) (some (.arr 5 ((woF days 0 a.entries).map encE)))
theorem c79_0 {a : Acc} (hf : faultS a = 0) {nF nA nP : Nat} {days : List Int} {fr : Int} {dv : AV} {os : Nat → Option AO} {bd : Nat} (hpy : Lv a nF nA nP os) (hdv : DV dv days os) (hcs : dv.cs? = some [dv]) (h80 : VCall Go.Proofs.Try.prog (bd + 39) (.fn (.func 80) [] []) [avA a, dv] (upd os nF (some (.cells [dv]))) (R80 a days (upd os nF (some (.cells [dv]))) (bd + 39))) (hlv : dv.lives os) :
    VCall Go.Proofs.Try.prog bd (.fn (.func 79) [] [.ptr nF 0, .ptr nA 0, .ptr nP 0]) [dv, i64 fr, i64 0] os (PyR nF bd os (leaveF (goodL a) a.entries.length 0 days fr)) := by
  refine vcall_mk (v := [80]) (q := []) (N := 39) (rs := [.tmp 9]) Go.Proofs.Try.func79 rfl (by kernel_rfl) rfl rfl (fun hcl hfree => ?_)
  refine AWP.wk ?_
  obtain ⟨⟨x, oF⟩, oA, oP, dFA, dFP⟩ := hpy
  have hfr0 : ∀ k, os (bd + k) = none := fun k => hfree _ (by omega)
  have bF := lt_of_live hfree oF
  refine awp_seq_k fun K1 hK1 => ?_
  refine awp_ops ?_
  simp (disch := omega) only [amL, sA, sB]
  refine hK1 _ ?_
  refine awp_seq_k fun K2 hK2 => ?_
  refine awp_seq_k fun K3 hK3 => ?_
  refine awp_ops ?_
  simp (disch := omega) only [amL, amT, sA, sF, ↓reduceIte, reduceCtorEq]
  refine hK3 _ ?_
  refine awp_cond rfl (fun h => ?_) (fun h => ?_)
  ·first
   | exact Bool.noConfusion h
   |skip
    try simp only [] at h
    refine awp_seq_k fun K4 hK4 => ?_
    refine awp_ops ?_
    simp (disch := omega) only [oF, hcs, amL, amT, sA, sF, ↓reduceIte, reduceCtorEq]
    refine hK4 _ ?_
    refine awp_seq_k fun K5 hK5 => ?_
    refine awp_ops ?_
    simp (disch := omega) only [oA, upd_ne, amL, amT, sA, sB, sF, ↓reduceIte, reduceCtorEq]
    repeat' first | (refine EC_intro (by kernel_rfl) rfl (c81 (withoutP a days) (fault_wo hf days)) (by first | exact .inl rfl | exact .inr (.inl rfl)) ?_ ; simp (disch := omega) only [oF, oA, oP, hfr0, upd_ne, upd_eq, hcs, elO_arr, take_encE, amL, amT, sA, sB, sC, sD, sE, sF, sG, sH, sI, sJ, sK, sL, sM, sN, sO, ↓reduceIte, reduceCtorEq])
    refine EV_intro2 [(0, dv), (1, i64 fr), (2, i64 0), (3, .ptr nF 0), (4, .ptr nA 0), (5, .ptr nP 0), (9, bl false)] (by decide) (os := upd os nF (some (.cells [dv]))) h80 (fun q hq => by simp (disch := omega) only [upd_ne, hfree q (by omega)]) (by simp only []; omega) (fun res os2 hR hcl2 hlv2 => ?_)
    obtain ⟨rfl, rfl⟩ := hR
    simp (disch := omega) only [upd_ne, upd_eq, elO_arr, take_encE, amL, sF, sG, ↓reduceIte, reduceCtorEq]
    refine ⟨⟨AV.lives_mono (fun k hk => upd_live (upd_live hk)) hlv, upd_live (upd_live (by rw [oA]; rfl)), upd_live (upd_live (by rw [oP]; rfl))⟩, ?_⟩
    refine EC_intro (by kernel_rfl) rfl (c81 (withoutP a days) (fault_wo hf days)) (.inl rfl) ?_
    simp (disch := omega) only [amL, sA, ↓reduceIte]
    refine hK5 _ ?_
    refine awp_ret ?_
    try simp (disch := omega) only [amL]
    have hdv2 : DV dv days (upd os nF (some (.cells [dv]))) := hdv.keep fun n k es hn => upd_ne (arr_ne hn oF)
    rcases Bool.eq_false_or_eq_true (goodL a days) with hg | hg
    · refine ⟨⟨T [(9, bl (goodL a days))], upd (upd os nF (some (.cells [dv]))) (bd + 39 + 26) (some (.arr 5 ((woF days 0 a.entries).map encE)))⟩, stwk_refl (by simp (disch := omega) only [amL, ↓reduceIte]) (by simp (disch := omega) only [amL]) hcl2, retV_mk (res := bl (goodL a days)) _ (by simp (disch := omega) only [amL, ↓reduceIte]) (Sub.refl _) hcl2 (lives_isP _ rfl) ?_⟩
      simp only [leaveF, hg, if_true]
      exact ⟨rfl, ⟨dv, by rw [upd_ne (by omega), upd_eq], hdv2.keep fun n k es hn => upd_ne (fun e => by rw [e, upd_ne (by omega), hfree _ (by omega)] at hn; cases hn)⟩, fun n h1 hn => by rw [upd_ne (by omega), upd_ne hn]⟩
    · refine ⟨⟨T [(9, bl (goodL a days))], upd os nF (some (.cells [.undef]))⟩, wk_forget (by simp (disch := omega) only [amL, ↓reduceIte]) (by simp (disch := omega) only [amL]) (closed_forget hcl) (by rw [upd_ne (by omega), upd_eq]) (fun k hk => ?_), retV_mk (res := bl (goodL a days)) _ (by simp (disch := omega) only [amL, ↓reduceIte]) (Sub.refl _) (closed_forget hcl) (lives_isP _ rfl) ?_⟩
      · by_cases e : k = bd + 39 + 26
        · subst e; exact .inl (hfree _ (by omega))
        · right; rw [upd_ne e, upd_ne hk]
      · simp only [leaveF, hg, Bool.false_eq_true, if_false]
        exact ⟨rfl, rfl⟩
  ·first
   | exact Bool.noConfusion h
   |skip
    try simp only [Bool.not_eq_true', decide_eq_true_eq, decide_eq_false_iff_not, Bool.and_eq_true, Bool.not_eq_false', Bool.not_not, decide_not, Bool.not_true, Bool.not_false] at h
    refine awp_skip ?_
    refine hK2 _ ?_
    refine awp_seq_k fun K6 hK6 => ?_
    refine awp_seq_k fun K7 hK7 => ?_
    exact absurd h (by simp)
end AM.Try
end
/- The program: the smallest set of entries: the search goes on. -/
section
namespace AM.Try
open Go AM AM.Duty
open Nat renaming reduceLT → sA, reduceAdd → sB, reduceMul → sC, reduceSub → sD, reduceLeDiff → sE, reduceEqDiff → sF, reduceBEq → sG
open Int renaming reduceAdd → sH, reduceSub → sI, reduceMul → sJ, reduceLT → sK, reduceLE → sL, reduceNeg → sM, reduceToNat → sN, reduceEq → sO
set_option maxHeartbeats 8000000
set_option maxRecDepth 100000
theorem c79_s {a : Acc} (hf : faultS a = 0) {nF nA nP m : Nat} (ih : ∀ (days : List Int) (fr : Int) (dv : AV) (os : Nat → Option AO) (bd : Nat), Lv a nF nA nP os → DV dv days os → m ≤ 100 → days.length + m ≤ 1000 → -1000 ≤ fr → fr ≤ 1000 →
      VCall Go.Proofs.Try.prog bd (.fn (.func 79) [] [.ptr nF 0, .ptr nA 0, .ptr nP 0]) [dv, i64 fr, i64 (m : Int)] os (PyR nF bd os (leaveF (goodL a) (a.entries.length : Int) m days fr)))
    {days : List Int} {fr : Int} {dv vdv : AV} {os : Nat → Option AO} {bd : Nat} (hpy : Lv a nF nA nP os) (_ : DV dv days os) (hm : m ≤ 99) (hl : days.length + m ≤ 999) (hf1 : -1000 ≤ fr) (hf2 : fr ≤ 1000)
    (hvw : viewA (upd os nF (some (.cells [.undef]))) dv = some vdv) (hn : NCall Go.Proofs.Try.prog 60 [vdv] 1 (days.map encI)) (hlv : dv.lives os) :
    VCall Go.Proofs.Try.prog bd (.fn (.func 79) [] [.ptr nF 0, .ptr nA 0, .ptr nP 0]) [dv, i64 fr, i64 ((m : Int) + 1)] os (PyR nF bd os (leaveF (goodL a) (a.entries.length : Int) (m + 1) days fr)) := by
  refine vcall_mk (v := [80]) (q := []) (N := 39) (rs := [.tmp 9]) Go.Proofs.Try.func79 rfl (by kernel_rfl) rfl rfl (fun hcl hfree => ?_)
  refine AWP.wk ?_
  obtain ⟨⟨x, oF⟩, oA, oP, dFA, dFP⟩ := hpy
  obtain ⟨_, z2, z3, _, _, _⟩ := fault_zero hf
  simp only [inB, Bool.and_eq_true, decide_eq_true_eq] at z3
  have hfr0 : ∀ k, os (bd + k) = none := fun k => hfree _ (by omega)
  have bF := lt_of_live hfree oF
  have bA := lt_of_live hfree oA
  have bP := lt_of_live hfree oP
  have hclF := closed_forget (n := nF) hcl
  have em : (m : Int) + 1 - 1 = m := by omega
  have hpu : dv.purge (bd + 30) = dv := purge_id (clean_of_none hlv (hfr0 30))
  have hlvF : dv.lives (upd os nF (some (.cells [.undef]))) := AV.lives_mono (fun k hk => upd_live hk) hlv
  refine awp_seq_k fun K1 hK1 => ?_
  refine awp_ops ?_
  simp (disch := omega) only [amL, sA, sB]
  refine hK1 _ ?_
  refine awp_seq_k fun K2 hK2 => ?_
  refine awp_seq_k fun K3 hK3 => ?_
  refine awp_ops ?_
  simp (disch := omega) only [amL, amT, sA, sF, ↓reduceIte, reduceCtorEq]
  refine hK3 _ ?_
  refine awp_cond rfl (fun h => ?_) (fun h => ?_)
  ·first
   | exact Bool.noConfusion h
   |skip
    try simp only [Bool.not_eq_true', decide_eq_true_eq, decide_eq_false_iff_not, Bool.and_eq_true, Bool.not_eq_false', Bool.not_not, decide_not, Bool.not_true, Bool.not_false] at h
    refine awp_seq_k fun K4 hK4 => ?_
    exact absurd h (by omega)
  ·first
   | exact Bool.noConfusion h
   |skip
    try simp only [decide_eq_false_iff_not] at h
    refine awp_skip ?_
    refine hK2 _ ?_
    refine awp_seq_k fun K5 hK5 => ?_
    refine awp_seq_k fun K6 hK6 => ?_
    refine awp_ops ?_
    simp (disch := omega) only [amL, sA, sF, ↓reduceIte, reduceCtorEq]
    refine hK6 _ ?_
    refine awp_block ?_
    refine AWP.from_wk (s1 := ⟨T [(0, dv), (1, i64 fr), (2, i64 ((m : Int) + 1)), (3, .ptr nF 0), (4, .ptr nA 0), (5, .ptr nP 0), (9, bl false), (10, i64 fr)], upd os nF (some (.cells [.undef]))⟩) (wk_forget ?_ ?_ hclF oF (fun _ _ => .inr rfl)) ?_
    all_goals try (simp (disch := omega) only [oA, oP, upd_ne, upd_eq, hlvF, amL, sF, ↓reduceIte, reduceCtorEq]; done)
    refine awp_loop_k (α := Nat) (fun k => ⟨T [(0, dv), (1, i64 fr), (2, i64 ((m : Int) + 1)), (3, .ptr nF 0), (4, .ptr nA 0), (5, .ptr nP 0), (9, bl false), (10, i64 (fr + (k : Int)))], upd os nF (some (.cells [.undef]))⟩) (fun k => ((a.entries.length : Int) - ((m : Int) + 1) - fr + 1).toNat - k) (fun k => leaveF (goodL a) (a.entries.length : Int) (m + 1) days fr = upI (fun n => leaveF (goodL a) (a.entries.length : Int) m (days ++ [n]) (n + 1)) (((a.entries.length : Int) - ((m : Int) + 1) - fr + 1).toNat - k) (fr + k)) 0 ?_ ?_ (fun k hx7 K7 hK7 => ?_)
    · simp [leaveF]
    · refine le_os ?_ ?_ ?_ ?_ <;> (try simp (disch := omega) only [oA, oP, upd_ne, upd_eq, hlvF, amL, sF, ↓reduceIte, reduceCtorEq]); all_goals first | (rw [Int.add_zero]) | exact Sub.refl _ | exact hclF | (omega)
    have hx0 := hx7
    refine awp_seq_k fun K8 hK8 => ?_
    refine awp_seq_k fun K9 hK9 => ?_
    refine awp_ops ?_
    simp (disch := omega) only [oA, upd_ne, amL, amT, sA, sF, ↓reduceIte, reduceCtorEq]
    refine hK9 _ ?_
    refine awp_cond rfl (fun h => ?_) (fun h => ?_)
    ·first
     | exact Bool.noConfusion h
     |skip
      try simp only [decide_eq_true_eq] at h
      refine awp_skip ?_
      refine hK8 _ ?_
      refine awp_seq_k fun K10 hK10 => ?_
      refine awp_block ?_
      refine awp_seq_k fun K11 hK11 => ?_
      refine awp_any4 [.app [5]] (by kernel_rfl) (by kernel_rfl) ?_
      simp only [List.dropLast, List.length_cons, List.length_nil, Nat.reduceAdd, Nat.reduceSub, List.drop_succ_cons, List.drop_zero]
      simp (disch := omega) only [oP, upd_ne, hvw, amL, amT, sA, sF, sG, ↓reduceIte, reduceCtorEq]
      repeat' first | (refine EN_intro (by kernel_rfl) (by decide) (hn) (by simp (disch := omega) only [hfr0, upd_ne]) ?_ ; simp (disch := omega) only [em, hfr0, upd_ne, upd_eq, purge_os, pg_ne, Option.map_none, purge_fn, ne_bne, hpu, amL, amT, sA, sE, sF, ↓reduceIte, reduceCtorEq])
      have hq1 : ∀ q, q < bd → q ≠ nF → os7 os nF (bd + 30) (bd + 32) (bd + 33) days (fr + (k : Int)) q = os q := fun q h1 h2 => os7_lt hcl hfree (by omega) (by omega) (by omega) h1 h2
      have hqF : os7 os nF (bd + 30) (bd + 32) (bd + 33) days (fr + (k : Int)) nF = some (.cells [.undef]) := os7_F (bd := bd) (by omega) (by omega) (by omega) bF
      have hqN : os7 os nF (bd + 30) (bd + 32) (bd + 33) days (fr + (k : Int)) (bd + 33) = some (.arr 1 ((days ++ [fr + (k : Int)]).map encI)) := os7_new
      have hqfr : ∀ q, bd + 39 ≤ q → os7 os nF (bd + 30) (bd + 32) (bd + 33) days (fr + (k : Int)) q = none := fun q hq => os7_free hfree bF (by omega) (by omega) (by omega) (by omega)
      have hih := ih (days ++ [fr + (k : Int)]) (fr + (k : Int) + 1) (.own (bd + 33) (days.length + 1)) (os7 os nF (bd + 30) (bd + 32) (bd + 33) days (fr + (k : Int))) (bd + 39)
        ⟨⟨_, hqF⟩, (hq1 nA bA (Ne.symm dFA)).trans oA, (hq1 nP bP (Ne.symm dFP)).trans oP, dFA, dFP⟩ (.inr ⟨bd + 33, by simp, hqN, by simp⟩) (by omega) (by simp; omega) (by omega) (by omega)
      refine ⟨by simp [Cf.ok, T, AV.known], ?_⟩
      refine EV_intro2 [(0, dv), (1, i64 fr), (2, i64 ((m : Int) + 1)), (3, .ptr nF 0), (4, .ptr nA 0), (5, .ptr nP 0), (9, bl false), (10, i64 (fr + (k : Int)))] (by decide) (os := os7 os nF (bd + 30) (bd + 32) (bd + 33) days (fr + (k : Int))) hih hqfr (by simp only []; omega) (fun res os2 hR hcl2 hlv2 => ?_)
      obtain ⟨rfl, hR⟩ := hR
      generalize hrv : leaveF (goodL a) (a.entries.length : Int) m (days ++ [fr + (k : Int)]) (fr + (k : Int) + 1) = rv at hR ⊢
      have hsm : ∀ q, q < bd → q ≠ nF → os2 q = os q := fun q h1 h2 => by
        cases rv with
        | none =>
          have hR : os2 = _ := hR
          rw [hR, upd_ne h2]; exact hq1 q h1 h2
        | some ds => exact (hR.2 q (by omega) h2).trans (hq1 q h1 h2)
      have hFs : (os2 nF).isSome = true := by
        cases rv with
        | none =>
          have hR : os2 = _ := hR
          rw [hR, upd_eq]; rfl
        | some ds => obtain ⟨⟨_, h1, _⟩, _⟩ := hR; rw [h1]; rfl
      have hdl : dv.lives os2 := fun q hq => by
        have h1 := hlv q hq
        by_cases e : q = nF
        · subst e; exact hFs
        · obtain ⟨o, ho⟩ := Option.isSome_iff_exists.1 h1
          rw [hsm q (lt_of_live hfree ho) e]; exact h1
      simp (disch := omega) only [amL, sF, ↓reduceIte, reduceCtorEq]
      refine ⟨⟨hdl, hFs, by rw [hsm nA bA (Ne.symm dFA), oA]; rfl, by rw [hsm nP bP (Ne.symm dFP), oP]; rfl⟩, ?_⟩
      refine hK11 _ ?_
      refine awp_cond rfl (fun h => ?_) (fun h => ?_)
      ·first
       | exact Bool.noConfusion h
       |skip
        try simp only [Bool.not_eq_true', decide_eq_true_eq, decide_eq_false_iff_not, Bool.and_eq_true, Bool.not_eq_false', Bool.not_not, decide_not, Bool.not_true, Bool.not_false] at h
        refine awp_seq_k fun K12 hK12 => ?_
        refine awp_ops ?_
        simp (disch := omega) only [amL, sA]
        refine hK12 _ ?_
        refine awp_ret ?_
        try simp (disch := omega) only [amL]
        first
          | (cases rv with
             | none => cases h
             | some ds =>
               have hpay : leaveF (goodL a) (a.entries.length : Int) (m + 1) days fr = some ds := by rw [hx0]; exact upI_some (by omega) hrv
               refine ⟨⟨T [(9, bl true)], os2⟩, stwk_refl (by simp (disch := omega) only [amL, ↓reduceIte]) (by simp (disch := omega) only [amL]) hcl2, retV_mk (res := bl true) _ (by simp (disch := omega) only [amL, ↓reduceIte]) (Sub.refl _) hcl2 (lives_isP _ rfl) ?_⟩
               rw [hpay]
               exact ⟨rfl, hR.1, fun q h1 h2 => hsm q h1 h2⟩)
          | (have hpay : leaveF (goodL a) (a.entries.length : Int) (m + 1) days fr = none := by
               rw [hx0, show ((a.entries.length : Int) - ((m : Int) + 1) - fr + 1).toNat - k = 0 by omega]; rfl
             refine ⟨⟨T [(9, bl false)], upd os nF (some (.cells [.undef]))⟩, stwk_refl (by simp (disch := omega) only [oF, oA, oP, hfr0, upd_ne, upd_eq, hvw, hlvF, purge_os, pg_ne, pg_eq, Option.map_none, purge_fn, ne_bne, hpu, amL, amT, sA, sB, sC, sD, sE, sF, sG, sH, sI, sJ, sK, sL, sM, sN, sO, ↓reduceIte, reduceCtorEq]) (by simp (disch := omega) only [oF, oA, oP, hfr0, upd_ne, upd_eq, hvw, hlvF, purge_os, pg_ne, pg_eq, Option.map_none, purge_fn, ne_bne, hpu, amL, amT, sA, sB, sC, sD, sE, sF, sG, sH, sI, sJ, sK, sL, sM, sN, sO, ↓reduceIte, reduceCtorEq]) hclF, retV_mk (res := bl false) _ (by simp (disch := omega) only [oF, oA, oP, hfr0, upd_ne, upd_eq, hvw, hlvF, purge_os, pg_ne, pg_eq, Option.map_none, purge_fn, ne_bne, hpu, amL, amT, sA, sB, sC, sD, sE, sF, sG, sH, sI, sJ, sK, sL, sM, sN, sO, ↓reduceIte, reduceCtorEq]) (Sub.refl _) hclF (lives_isP _ rfl) ?_⟩
             rw [hpay]
             exact ⟨rfl, rfl⟩)
          | (omega)
      ·first
       | exact Bool.noConfusion h
       |skip
        try simp only [Bool.not_eq_true', decide_eq_true_eq, decide_eq_false_iff_not, Bool.and_eq_true, Bool.not_eq_false', Bool.not_not, decide_not, Bool.not_true, Bool.not_false] at h
        refine awp_skip ?_
        refine hK10 _ ?_
        refine awp_ops ?_
        simp (disch := omega) only [amL, amT, sA, sF, ↓reduceIte, reduceCtorEq]
        refine hK7 (k+1) _ ?_ ?_ (le_os ?_ ?_ ?_ ?_)
        all_goals (try simp (disch := omega) only [oA, oP, upd_ne, upd_eq, hlvF, amL, sF, ↓reduceIte, reduceCtorEq])
        all_goals (have hrn : rv = none := by cases rv with | none => rfl | some _ => cases h)
        all_goals first | omega | (rw [hx7]; exact upI_next (by omega) (by rw [hrn] at hrv; exact hrv)) | (show i64 _ = i64 _; rw [show fr + (k : Int) + 1 = fr + ((k : Int) + 1) by omega]) | exact hclF | (rw [hrn] at hR; exact sub_none hR hq1 hfree) | (omega)
    ·first
     | exact Bool.noConfusion h
     |skip
      try simp only [decide_eq_false_iff_not] at h
      refine awp_exit ?_
      refine hK5 _ ?_
      refine awp_seq_k fun K13 hK13 => ?_
      refine awp_ops ?_
      simp (disch := omega) only [amL, sA]
      refine hK13 _ ?_
      refine awp_ret ?_
      try simp (disch := omega) only [amL]
      first
        | (cases rv with
           | none => cases h
           | some ds =>
             have hpay : leaveF (goodL a) (a.entries.length : Int) (m + 1) days fr = some ds := by rw [hx0]; exact upI_some (by omega) hrv
             refine ⟨⟨T [(9, bl true)], os2⟩, stwk_refl (by simp (disch := omega) only [oF, oA, oP, hfr0, upd_ne, upd_eq, hvw, hlvF, purge_os, pg_ne, pg_eq, Option.map_none, purge_fn, ne_bne, hpu, amL, amT, sA, sB, sC, sD, sE, sF, sG, sH, sI, sJ, sK, sL, sM, sN, sO, ↓reduceIte, reduceCtorEq]) (by simp (disch := omega) only [oF, oA, oP, hfr0, upd_ne, upd_eq, hvw, hlvF, purge_os, pg_ne, pg_eq, Option.map_none, purge_fn, ne_bne, hpu, amL, amT, sA, sB, sC, sD, sE, sF, sG, sH, sI, sJ, sK, sL, sM, sN, sO, ↓reduceIte, reduceCtorEq]) hcl2, retV_mk (res := bl true) _ (by simp (disch := omega) only [oF, oA, oP, hfr0, upd_ne, upd_eq, hvw, hlvF, purge_os, pg_ne, pg_eq, Option.map_none, purge_fn, ne_bne, hpu, amL, amT, sA, sB, sC, sD, sE, sF, sG, sH, sI, sJ, sK, sL, sM, sN, sO, ↓reduceIte, reduceCtorEq]) (Sub.refl _) hcl2 (lives_isP _ rfl) ?_⟩
             rw [hpay]
             exact ⟨rfl, hR.1, fun q h1 h2 => hsm q h1 h2⟩)
        | (have hpay : leaveF (goodL a) (a.entries.length : Int) (m + 1) days fr = none := by
             rw [hx0, show ((a.entries.length : Int) - ((m : Int) + 1) - fr + 1).toNat - k = 0 by omega]; rfl
           refine ⟨⟨T [(9, bl false)], upd os nF (some (.cells [.undef]))⟩, stwk_refl (by simp (disch := omega) only [amL, ↓reduceIte]) (by simp (disch := omega) only [amL]) hclF, retV_mk (res := bl false) _ (by simp (disch := omega) only [amL, ↓reduceIte]) (Sub.refl _) hclF (lives_isP _ rfl) ?_⟩
           rw [hpay]
           exact ⟨rfl, rfl⟩)
        | (omega)
end AM.Try
end
/- The program: the smallest set of entries. -/
section
namespace AM.Try
open Go AM AM.Duty
open Nat renaming reduceLT → sA, reduceAdd → sB, reduceMul → sC, reduceSub → sD, reduceLeDiff → sE, reduceEqDiff → sF, reduceBEq → sG
open Int renaming reduceAdd → sH, reduceSub → sI, reduceMul → sJ, reduceLT → sK, reduceLE → sL, reduceNeg → sM, reduceToNat → sN, reduceEq → sO
set_option maxHeartbeats 8000000
set_option maxRecDepth 100000
theorem c79 {a : Acc} (hf : faultS a = 0) {nF nA nP : Nat} : ∀ (m : Nat) (days : List Int) (fr : Int) (dv : AV) (os : Nat → Option AO) (bd : Nat), Lv a nF nA nP os → DV dv days os → m ≤ 100 → days.length + m ≤ 1000 → -1000 ≤ fr → fr ≤ 1000 →
    VCall Go.Proofs.Try.prog bd (.fn (.func 79) [] [.ptr nF 0, .ptr nA 0, .ptr nP 0]) [dv, i64 fr, i64 (m : Int)] os (PyR nF bd os (leaveF (goodL a) (a.entries.length : Int) m days fr)) := by
  intro m
  obtain ⟨_, z2, _, _, _, _⟩ := fault_zero hf
  induction m with
  | zero =>
    intro days fr dv os bd hpy hdv hm hl hf1 hf2
    obtain ⟨x, oF⟩ := hpy.oF
    rcases hdv with ⟨rfl, rfl⟩ | ⟨nd, rfl, od, hne⟩
    · exact c79_0 hf hpy (.inl ⟨rfl, rfl⟩) rfl (c80n (by omega)) (AV.lives_p _ _)
    · exact c79_0 hf hpy (.inr ⟨nd, rfl, od, hne⟩) rfl (c80o (by omega) (by omega) (by rw [upd_ne (arr_ne od oF)]; exact od)) (DV.lives (.inr ⟨nd, rfl, od, hne⟩))
  | succ m ih =>
    intro days fr dv os bd hpy hdv hm hl hf1 hf2
    obtain ⟨x, oF⟩ := hpy.oF
    rcases hdv with ⟨rfl, rfl⟩ | ⟨nd, rfl, od, hne⟩
    · exact c79_s hf ih hpy (.inl ⟨rfl, rfl⟩) (by omega) (by omega) hf1 hf2 rfl (NCall.of_nil 0 rfl (n60 [] (by simp))) (AV.lives_p _ _)
    · exact c79_s hf ih hpy (.inr ⟨nd, rfl, od, hne⟩) (by omega) (by omega) hf1 hf2 (view_own (by rw [upd_ne (arr_ne od oF)]; exact od)) (n60 days (by omega)) (DV.lives (.inr ⟨nd, rfl, od, hne⟩))
theorem upF_none {α : Type} {f : Nat → Option α} : ∀ {c n : Nat}, upF f c n = none → ∀ i, n ≤ i → i < n + c → f i = none
  | 0, n, _, i, h1, h2 => by omega
  | c + 1, n, h, i, h1, h2 => by
    simp only [upF] at h
    split at h
    · cases h
    · rename_i hn
      by_cases e : i = n
      · subst e; exact hn
      · exact upF_none h i (by omega) (by omega)
abbrev rngL (j : Nat) : List Int := (List.range j).map fun (i : Nat) => (i : Int)
theorem leave_full {H : List Int → Bool} {len : Nat} (hH : H (rngL len) = true) : ∀ m j, j + m = len → leaveF H len m (rngL j) j = some (rngL len)
  | 0, j, h => by
    have e : j = len := by omega
    subst e; simp only [leaveF, hH, if_true]
  | m + 1, j, h => by
    have ih := leave_full hH m (j + 1) (by omega)
    have e1 : ((len : Int) - (m + 1) - j + 1).toNat = 1 := by omega
    simp only [leaveF, e1, upI]
    have e2 : rngL j ++ [(j : Int)] = rngL (j + 1) := by simp only [rngL, List.range_succ, List.map_append, List.map_cons, List.map_nil]
    rw [e2, show (j : Int) + 1 = ((j + 1 : Nat) : Int) by omega, ih]
theorem woF_all {out : List Int} : ∀ {es : List Entry} {j : Nat}, (∀ i, j ≤ i → i < j + es.length → (i : Int) ∈ out) → woF out j es = []
  | [], j, _ => rfl
  | e :: es, j, h => by
    simp only [woF, if_pos (h j (Nat.le_refl _) (by simp))]
    exact woF_all fun i h1 h2 => h i (by omega) (by simp at h2 ⊢; omega)
theorem play_none {a : Acc} (h : a.entries = []) {t paid : List Int} {ask : Bool} : ∀ c day w, (playF a t paid ask c day w).2 = true
  | 0, _, _ => rfl
  | c + 1, day, w => by
    rw [playF_succ, h]
    simp only [dayP]
    exact play_none h c _ _
theorem good_all (a : Acc) : goodL a (rngL a.entries.length) = true := by
  have h : (withoutP a (rngL a.entries.length)).entries = [] := woF_all fun i h1 h2 => List.mem_map.2 ⟨i, List.mem_range.2 (by omega), rfl⟩
  unfold goodL truthsL
  rw [h]
  have h2 : (playS (withoutP a (rngL a.entries.length)) [] [] true).2 = true := play_none h _ _ _
  simp only [listsP, List.filter_cons, h2, if_true, List.filter_nil, List.isEmpty_cons, Bool.not_false]
def leaveL (a : Acc) : Option (List Int) := upF (fun m => leaveF (goodL a) a.entries.length m [] 0) (a.entries.length + 1) 0
theorem leave_some (a : Acc) : leaveL a ≠ none := fun h => by
  have h1 := upF_none h a.entries.length (by omega) (by omega)
  have h2 := leave_full (good_all a) a.entries.length 0 (by omega)
  rw [show rngL 0 = [] from rfl] at h2
  rw [show ((0 : Nat) : Int) = 0 from rfl] at h2
  rw [h2] at h1; cases h1
def leaveA (a : Acc) : AV :=
  if faultS a = 0 then match leaveL a with
    | none => .tup [.p (.val (.slice none 0 0)), i64 10]
    | some ds => .tup [if ds.isEmpty then .p (.val (.slice none 0 0)) else isl ds, i64 0]
  else .tup [.p (.val (.slice none 0 0)), i64 (faultS a)]
theorem leaveA_isP (a : Acc) : (leaveA a).isP = true := by
  unfold leaveA; split
  · split
    · rfl
    · split <;> rfl
  · rfl
abbrev o42 (a : Acc) : List (Nat × AO) := [(6, .cells [.fn (.func 79) [] [.ptr 5 0, .ptr 1 0, .ptr 6 0]]), (1, .cells (cA a))]
theorem wk42 {a : Acc} : ∀ k, k ≠ 5 → O (o42 a) k = none ∨ O (o42 a) k = O [(6, .cells [.fn (.func 79) [] [.ptr 5 0, .ptr 1 0, .ptr 6 0]]), (6, .cells [.p (.val .nilFunc)]), (5, .cells [.p (.val (.slice none 0 0))]), (1, .cells (cA a))] k := fun k hk => by
  simp only [O_cons, O_nil]
  by_cases h6 : k = 6
  · simp [h6]
  · by_cases h1 : k = 1
    · simp [h1]
    · simp [h6, hk, h1]
theorem closed42 {a : Acc} : (Hp (upd (O (o42 a)) 5 (some (.cells [.undef])))).closed := closed_mk (l := []) (m := (5, .cells [.undef]) :: o42 a) rfl rfl
theorem c42 (a : Acc) (hl1 : a.rates.length < 1000000) (hl2 : a.entries.length < 1000000) (hin : ∀ e ∈ a.entries, inR e.lo = true ∧ inR e.hi = true) : PCall Go.Proofs.Try.prog 42 [avA a] (leaveA a) := by
  refine pcall_mk (v := []) (q := []) (N := 26) (rs := [.tmp 2, .tmp 3]) Go.Proofs.Try.func42 rfl rfl rfl rfl (leaveA_isP a) ?_
  refine awp_seq_k fun K1 hK1 => ?_
  refine awp_ops ?_
  simp (disch := omega) only [amL, sA, ↓reduceIte]
  refine hK1 _ ?_
  refine awp_seq_k fun K2 hK2 => ?_
  refine awp_seq_k fun K3 hK3 => ?_
  refine awp_ops ?_
  simp (disch := omega) only [amL, amT, sA, sB, sF, ↓reduceIte]
  repeat' first | (refine EC_intro (by kernel_rfl) rfl (c25 a hl1 hl2 hin) (by first | exact .inl rfl | exact .inr (.inl rfl)) ?_ ; simp (disch := omega) only [amL, sA, ↓reduceIte])
  refine hK3 _ ?_
  refine awp_seq_k fun K4 hK4 => ?_
  refine awp_ops ?_
  simp (disch := omega) only [ne_eq, amL, amT, sA, ↓reduceIte]
  refine hK4 _ ?_
  refine awp_cond rfl (fun h => ?_) (fun h => ?_)
  ·first
   | exact Bool.noConfusion h
   |skip
    try simp only [Bool.not_eq_true', decide_eq_false_iff_not, decide_not] at h
    refine awp_seq_k fun K5 hK5 => ?_
    refine awp_ops ?_
    simp (disch := omega) only [amL, sA, sF, ↓reduceIte]
    refine hK5 _ ?_
    refine awp_ret ?_
    try simp (disch := omega) only [amL, sF, ↓reduceIte]
    first
      | (rw [leaveA, if_neg (by assumption)]; done)
      | (have hpay : leaveL a = some ds := by rw [hx0]; exact upF_some (by omega) hrv
         rw [leaveA, if_pos hf, hpay]
         rcases hdv with ⟨rfl, rfl⟩ | ⟨nd, rfl, od, hne⟩
         · rfl
         · rw [view_own od]
           cases ds with
           | nil => exact absurd rfl hne
           | cons x l => rfl)
      | (omega)
  ·first
   | exact Bool.noConfusion h
   |skip
    try simp only [decide_eq_true_eq, Bool.not_eq_false', decide_not] at h
    refine awp_skip ?_
    refine hK2 _ ?_
    refine awp_seq_k fun K6 hK6 => ?_
    refine awp_ops ?_
    simp (disch := omega) only [amL, amT, sA, sF, ↓reduceIte]
    refine hK6 _ ?_
    refine awp_seq_k fun K7 hK7 => ?_
    refine awp_ops ?_
    simp (disch := omega) only [amL, amT, sA, sF, ↓reduceIte]
    refine hK7 _ ?_
    refine awp_seq_k fun K8 hK8 => ?_
    refine awp_ops ?_
    simp (disch := omega) only [amL, amT, sA, sF, ↓reduceIte]
    refine hK8 _ ?_
    refine awp_seq_k fun K9 hK9 => ?_
    refine awp_seq_k fun K10 hK10 => ?_
    refine awp_ops ?_
    have hf : faultS a = 0 := by omega
    obtain ⟨_, z2, z3, _, _, _⟩ := fault_zero hf
    simp (disch := omega) only [amL, amT, sA, sF, ↓reduceIte, reduceCtorEq]
    refine hK10 _ ?_
    refine awp_block ?_
    refine AWP.from_wk (s1 := ⟨T [(1, .ptr 1 0), (5, .ptr 5 0), (6, .ptr 6 0), (17, i64 ((a.entries.length : Int) + 1)), (18, i64 0)], upd (O (o42 a)) 5 (some (.cells [.undef]))⟩) (wk_forget ?_ ?_ closed42 (x := .p (.val (.slice none 0 0))) rfl wk42) ?_
    all_goals try (simp (disch := omega) only [amL, sF, ↓reduceIte]; done)
    refine awp_loop_k (α := Nat) (fun k => ⟨T [(1, .ptr 1 0), (5, .ptr 5 0), (6, .ptr 6 0), (17, i64 ((a.entries.length : Int) + 1)), (18, i64 (k : Int))], O [(5, .cells [.undef]), (6, .cells [.fn (.func 79) [] [.ptr 5 0, .ptr 1 0, .ptr 6 0]]), (1, .cells (cA a))]⟩) (fun k => a.entries.length + 1 - k) (fun k => k ≤ a.entries.length + 1 ∧ leaveL a = upF (fun m => leaveF (goodL a) a.entries.length m [] 0) (a.entries.length + 1 - k) k) 0 ?_ ?_ (fun k hx11 K11 hK11 => ?_)
    · exact ⟨by omega, rfl⟩
    · refine le_mk ?_ ?_ ?_ ?_ <;> (try simp (disch := omega) only [amL, sF, sG, ↓reduceIte])
    have hx0 := hx11.2; have hk := hx11.1; have hlt : ((k : Int) < (a.entries.length : Int) + 1) = True := eq_true (Decidable.byContradiction fun hge => leave_some a (by rw [hx0, show a.entries.length + 1 - k = 0 by omega]; rfl)); have hk2 : k < a.entries.length + 1 := (by have := of_eq_true hlt; omega)
    refine awp_seq_k fun K12 hK12 => ?_
    refine awp_ops ?_
    simp (disch := omega) only [hlt, amL, amT, sA, sF, ↓reduceIte]
    refine hK12 _ ?_
    refine awp_seq_k fun K13 hK13 => ?_
    refine awp_cond rfl (fun h => ?_) (fun h => ?_)
    ·first
     | exact Bool.noConfusion h
     |skip
      try simp only [] at h
      refine awp_skip ?_
      refine hK13 _ ?_
      refine awp_seq_k fun K14 hK14 => ?_
      refine awp_block ?_
      refine awp_seq_k fun K15 hK15 => ?_
      refine awp_ops ?_
      simp (disch := omega) only [amL, sA, sF, ↓reduceIte]
      refine hK15 _ ?_
      refine awp_seq_k fun K16 hK16 => ?_
      refine awp_ops ?_
      simp (disch := omega) only [amL, amT, sA, sF, ↓reduceIte]
      refine EV_intro2 [(1, .ptr 1 0), (5, .ptr 5 0), (6, .ptr 6 0), (17, i64 ((a.entries.length : Int) + 1)), (18, i64 (k : Int))] (by decide) (c79 (bd := 26) hf k [] 0 (.p (.val (.slice none 0 0))) _ ⟨⟨_, rfl⟩, rfl, rfl, by decide, by decide⟩ (.inl ⟨rfl, rfl⟩) (by omega) (by simp; omega) (by omega) (by omega)) (T_get_none rfl) (by decide) (fun res os2 hR hcl2 hlv2 => ?_)
      obtain ⟨rfl, hR⟩ := hR
      generalize hrv : leaveF (goodL a) a.entries.length k [] 0 = rv at hR ⊢
      have hsm : ∀ q, q < 26 → q ≠ 5 → os2 q = O (o42 a) q := fun q h1 h2 => by
        cases rv with
        | none =>
          have hR : os2 = _ := hR
          rw [hR, upd_ne h2]
          show (if q = 5 then _ else O (o42 a) q) = _
          rw [if_neg h2]
        | some ds =>
          rw [hR.2 q h1 h2]
          show (if q = 5 then _ else O (o42 a) q) = _
          rw [if_neg h2]
      have hFs : (os2 5).isSome = true := by
        cases rv with
        | none =>
          have hR : os2 = _ := hR
          rw [hR, upd_eq]; rfl
        | some ds => obtain ⟨⟨_, h1, _⟩, _⟩ := hR; rw [h1]; rfl
      have r1 : os2 1 = some (.cells (cA a)) := (hsm 1 (by decide) (by decide)).trans rfl
      have r6 : os2 6 = some (.cells [.fn (.func 79) [] [.ptr 5 0, .ptr 1 0, .ptr 6 0]]) := (hsm 6 (by decide) (by decide)).trans rfl
      simp (disch := omega) only [amL, sF, ↓reduceIte]
      refine ⟨⟨by rw [r1]; rfl, hFs, by rw [r6]; rfl⟩, ?_⟩
      rcases rv with _ | ds
      all_goals simp only [Option.isSome_none, Option.isSome_some]
      all_goals
       skip
       refine hK16 _ ?_
       refine awp_cond rfl (fun h => ?_) (fun h => ?_)
       ·first
        | exact Bool.noConfusion h
        |skip
         try simp only [] at h
         refine awp_exit ?_
         refine hK9 _ ?_
         refine awp_seq_k fun K17 hK17 => ?_
         refine awp_ops ?_
         obtain ⟨⟨dv, o5, hdv⟩, hsame⟩ := hR
         simp (disch := omega) only [o5, amL, amT, sA, sF, ↓reduceIte]
         refine hK17 _ ?_
         refine awp_ret ?_
         try simp (disch := omega) only [amL, sF, ↓reduceIte]
         first
           | (rw [leaveA, if_neg (by assumption)]; done)
           | (have hpay : leaveL a = some ds := by rw [hx0]; exact upF_some (by omega) hrv
              rw [leaveA, if_pos hf, hpay]
              rcases hdv with ⟨rfl, rfl⟩ | ⟨nd, rfl, od, hne⟩
              · rfl
              · rw [view_own od]
                cases ds with
                | nil => exact absurd rfl hne
                | cons x l => rfl)
           | (omega)
       ·first
        | exact Bool.noConfusion h
        |skip
         try simp only [] at h
         refine awp_skip ?_
         refine hK14 _ ?_
         refine awp_ops ?_
         simp (disch := omega) only [amL, amT, sA, sF, ↓reduceIte]
         refine hK11 (k+1) _ ?_ ?_ (le_mk ?_ ?_ ?_ ?_)
         all_goals (try simp (disch := omega) only [amL, sE, sF, sG, ↓reduceIte])
         all_goals first | omega | exact ⟨by omega, by rw [hx0]; exact upF_next (by omega) hrv⟩ | exact ⟨by rw [show os2 = upd _ _ _ from hR, upd_eq], r6, r1⟩ | (omega)
    ·first
     | exact Bool.noConfusion h
     |skip
      try simp only [Bool.not_eq_true', decide_eq_true_eq, decide_eq_false_iff_not, Bool.and_eq_true, Bool.not_eq_false', Bool.not_not, decide_not, Bool.not_true, Bool.not_false] at h
      refine awp_exit ?_
      refine hK9 _ ?_
      refine awp_seq_k fun K18 hK18 => ?_
      refine awp_ops ?_
      obtain ⟨⟨dv, o5, hdv⟩, hsame⟩ := hR
      simp (disch := omega) only [o5, ne_eq, amL, amT, sA, sB, sC, sD, sE, sF, sG, sH, sI, sJ, sK, sL, sM, sN, sO, ↓reduceIte, reduceCtorEq]
      refine hK18 _ ?_
      refine awp_ret ?_
      try simp (disch := omega) only [ne_eq, amL, amT, sA, sB, sC, sD, sE, sF, sG, sH, sI, sJ, sK, sL, sM, sN, sO, ↓reduceIte, reduceCtorEq]
      first
        | (rw [leaveA, if_neg (by assumption)]; done)
        | (have hpay : leaveL a = some ds := by rw [hx0]; exact upF_some (by omega) hrv
           rw [leaveA, if_pos hf, hpay]
           rcases hdv with ⟨rfl, rfl⟩ | ⟨nd, rfl, od, hne⟩
           · rfl
           · rw [view_own od]
             cases ds with
             | nil => exact absurd rfl hne
             | cons x l => rfl)
        | (omega)
end AM.Try
end
/- The abstract machine, part 36: a slice literal that is never written again. -/
section
namespace AM
open Go
section
variable {P : Program} {nb N B : Nat} {S : Nat → Prop} {θ : Nat → Loc} {M : Nat → Prop} {w : World} {st st' : St} {a : Act} {o : Oper} {d : Nat} {e : Eff}
theorem adv_newPure (h : SRel N B S θ M w st a) {dk : Nat} (hdst : o.dst = some dk) (hdN : dk < N) {k : Nat} {es : List (List PV)} {vs : List Value} {t : TypeId} {cap : Nat}
    (hk : ∀ (i : Nat) (e : List PV), es[i]? = some e → e.length = k) (hc : es.length ≤ cap) (_ : vs.length = cap * k) (_ : ∀ (i : Nat) (v : Value), vs[i]? = some v → v.oneCell' = true) (hfl : FL M w k es vs) :
    Adv nb N B S θ M w (st.put o.dst (.p (.sl es))) (a.put o.dst (.slice (some ⟨w.heap.size, 0, none⟩) es.length cap)) (w.alloc (.cells vs.toArray t)) := by
  have hS := h.ext (Keeps.alloc (fun b => w.heap.size ≤ b) w (.cells vs.toArray t))
  have hk' : ∀ b, b < w.heap.size → (w.alloc (.cells vs.toArray t)).heap[b]? = w.heap[b]? := fun b hb => alloc_old w _ hb
  refine ⟨θ, M, hS.put (d := o.dst) (fun k e => by rw [hdst] at e; cases e; exact hdN) (x := .p (.sl es)) (v := .slice (some ⟨w.heap.size, 0, none⟩) es.length cap) (.p _ _ ?_) (AV.lives_p _ _), Keeps.alloc _ _ _, fun _ _ => rfl, fun _ _ h => h⟩
  refine PRel.sl es w.heap.size 0 cap k (fun i j => vs.getD (i * k + j) undef) hk hc (fun i e j x hi hj => ?_) (fun i e j x hi hj => ?_)
  · obtain ⟨v, h2, _⟩ := hfl i e j x hi hj
    refine ⟨fun hm => Nat.lt_irrefl _ (h.mlt _ hm), ?_⟩
    refine cell_of_block (alloc_new w _) ?_
    rw [Nat.zero_add, List.getElem?_toArray, h2, List.getD_eq_getElem?_getD, h2]; rfl
  · obtain ⟨v, h2, h3⟩ := hfl i e j x hi hj
    rw [List.getD_eq_getElem?_getD, h2]
    exact h3.mono (fun b hb _ => hk' b hb) (fun _ _ hm => hm)
theorem sound_bsPure (h : SRel N B S θ M w st a) {t e : TypeId} {len : Nat} {parts : Array (Nat × Operand)} (ho : o.op = .buildSlice t len parts) {dk : Nat} (hdst : o.dst = some dk) (hdN : dk < N)
    (hk : (tyOf P t).k = .sl e) (hg : ∀ k, (tyOf P e).k = k → k ≠ .bad) {es : List (List PV)} (hp : partElems (tyOf P e).sz 0 (parts.toList.map fun p => (p.1, ev st.t p.2)) = some es) (hlen : es.length = len)
    (h24 : len * (tyOf P e).sz ≤ 16777216) (hz : len = 0 ∨ ((tyOf P e).sz = (tyOf P e).zero.length ∧ 0 < (tyOf P e).sz)) :
    OpOk P nb N B S θ M w (st.put o.dst (.p (.sl es))) o a := by
  subst hlen
  have hu := tyOf_sl hk
  have hzero : ∃ z : Array Value, (es.length * (tyOf P e).sz = 0 → z = #[]) ∧ (es.length * (tyOf P e).sz ≠ 0 → ∃ z', (zeroValue e).run P w = .ok z' w ∧ z = z'.cells) := by
    by_cases h0 : es.length * (tyOf P e).sz = 0
    · exact ⟨#[], fun _ => rfl, fun h => absurd h0 h⟩
    · rcases hz with h1 | ⟨h1, h2⟩
      · exact absurd (by rw [h1]; simp) h0
      · obtain ⟨z, hz1, _⟩ := run_zeroValue (P := P) (w := w) hg h1 h2
        exact ⟨z.cells, fun h => absurd h h0, fun _ => ⟨z, hz1, rfl⟩⟩
  obtain ⟨z, hza, hzb⟩ := hzero
  have hpl : (parts.toList.map fun p => (p.1, ev st.t p.2)).length = es.length := by
    have : ∀ (k i : Nat) (l : List (Nat × AV)) (es : List (List PV)), partElems k i l = some es → l.length = es.length := by
      intro k i l
      induction l generalizing i with
      | nil => intro es h; simp only [partElems, Option.some.injEq] at h; subst h; rfl
      | cons x r ih =>
        intro es h
        obtain ⟨j, x⟩ := x
        simp only [partElems] at h
        cases hb : x.cs?.bind pvs? with
        | none => simp [hb] at h
        | some c =>
          cases hq : partElems k (i + 1) r with
          | none => simp [hb, hq] at h
          | some es' =>
            simp only [hb, hq] at h
            split at h
            · have h := Option.some.inj h; subst h; simp [ih _ _ hq]
            · cases h
    exact this _ _ _ _ hp
  obtain ⟨out, vs, h1, h2, h3, h4, h5, h6, h7, h8⟩ := fill_list (θ := θ) (M := M) (w := w) (tyOf P e).sz (parts.toList.map fun p => (p.1, ev st.t p.2)) (parts.toList.map fun p => (p.1, a.eval p.2)) 0 es
    ((Array.range (es.length * (tyOf P e).sz)).map (z[· % z.size]!)) [] (by simp [List.map_map, Function.comp_def]) (fun i p q hi hq => by
      simp only [List.getElem?_map, Option.map_eq_some_iff] at hi hq
      obtain ⟨y, hy, rfl⟩ := hi
      obtain ⟨y', hy', rfl⟩ := hq
      rw [hy] at hy'; cases hy'
      exact ev_rel h y.2) hp (by simp) (by simp) (by rw [hpl]; simp)
  have hov : out.toList = vs := by
    rw [Nat.zero_add, List.nil_append, hpl] at h3
    rw [← h3, List.take_of_length_le]
    simp [h2]
  have hrun : (Instr.buildSlice t es.length (parts.map fun (i, x) => (i, a.eval x))).run P w = .ok (.slice (some ⟨w.heap.size, 0, none⟩) es.length es.length) (w.alloc (.cells out e)) := by
    have h24' : ¬ (16777216 < es.length * (tyOf P e).sz) := by omega
    have h1' : Instr.fill (fun i => some (i * (tyOf P e).sz, (tyOf P e).sz)) ((Array.range (es.length * (tyOf P e).sz)).map (z[· % z.size]!)) (parts.map fun (i, x) => (i, a.eval x)).toList = some out := by
      rw [Array.toList_map]; exact h1
    by_cases h0 : es.length * (tyOf P e).sz = 0
    · have hz0 := hza h0
      subst hz0
      simp only [Instr.buildSlice, Sem.run_bind, run_und hu, Result.andThen_ok, run_sizeOf (w := w) hg]
      rw [if_neg h24', if_pos h0]
      simp only [Sem.run_bind, Sem.run_pure, Result.andThen_ok, h1', newRow, run_newObj]
      rfl
    · obtain ⟨z', hz1, rfl⟩ := hzb h0
      simp only [Instr.buildSlice, Sem.run_bind, run_und hu, Result.andThen_ok, run_sizeOf (w := w) hg]
      rw [if_neg h24', if_neg h0]
      simp only [Sem.run_bind, hz1, Sem.run_pure, Result.andThen_ok, h1', newRow, run_newObj]
      rfl
  have hadv := adv_newPure (nb := nb) (t := e) (vs := out.toList) h hdst hdN h6 (Nat.le_refl _) (by rw [hov]; exact h5) (by rw [hov]; exact h7) (by rw [hov]; exact h8)
  refine ⟨.slice (some ⟨w.heap.size, 0, none⟩) es.length es.length, w.alloc (.cells out e), .inl ?_, by simpa using hadv⟩
  simp only [execOp, ho]
  exact run_v hrun
end
section
variable {P : Program} {r : RB} {N : Nat} {s : St} {K : St → Prop} {dst : Option Nat} {ty : TypeId} {pos : String} {after : Array Edge} {g : Option (Nat × Bool)} {all rest : List Oper}
def EPp (N : Nat) (dst : Option Nat) (s : St) (K : St → Prop) : Option Eff → Prop
  | some (.new (.arr _ es) _) => dst.isSome = true ∧ dstOk N dst = true ∧ K (s.put dst (.p (.sl es)))
  | _ => False
theorem EPp_new {k : Nat} {es : List (List PV)} {x : AV} : EPp N dst s K (some (.new (.arr k es) x)) = (dst.isSome = true ∧ dstOk N dst = true ∧ K (s.put dst (.p (.sl es)))) := rfl
def EPb (P : Program) (N : Nat) (o : Oper) (s : St) (K : St → Prop) : Prop := match o.op with
  | .buildSlice t n parts => EPp N o.dst s K (fBS P 0 n (parts.toList.map fun p => (p.1, ev s.t p.2)) (tyOf P t).k)
  | _ => False
theorem EPb_bs {t : TypeId} {n : Nat} {parts : Array (Nat × Operand)} : EPb P N ⟨dst, .buildSlice t n parts, ty, pos, after, g⟩ s K = EPp N dst s K (fBS P 0 n (parts.toList.map fun p => (p.1, ev s.t p.2)) (tyOf P t).k) := rfl
theorem EPb_sound {o : Oper} (h : EPb P N o s K) : AStep P r N o s K := by
  unfold EPb at h
  split at h
  · rename_i t n parts ho
    intro B S θ M w a Q hs
    cases hk : (tyOf P t).k with
    | sl e =>
      rw [hk, fBS_sl] at h
      cases hp : partElems (tyOf P e).sz 0 (parts.toList.map fun p => (p.1, ev s.t p.2)) with
      | none => rw [hp] at h; exact h.elim
      | some es =>
        rw [hp, gBS_some] at h
        split at h
        · rename_i hc
          rw [EPp_new] at h
          obtain ⟨h1, h2, h3⟩ := h
          obtain ⟨dk, hd⟩ := Option.isSome_iff_exists.1 h1
          obtain ⟨v, w', hr, hadv⟩ := sound_bsPure (nb := r.b) hs ho hd (dstOk_spec h2 dk hd) hk (agg_some hc.2.1) hp hc.1 hc.2.2.1 hc.2.2.2
          refine ⟨fun _ _ => trivial, ?_⟩
          rw [Oper.semAt_eq _ _ _ (by rw [ho]; intro c h; cases h)]
          rcases hr with hr | ⟨hr, rfl⟩
          · rw [hr]; exact ⟨_, h3, hadv.toM, by cases o.dst <;> rfl⟩
          · rw [hr]; exact ⟨_, h3, hadv.toM, by cases o.dst <;> rfl⟩
        · exact h.elim
    | _ => rw [hk] at h; exact h.elim
  · exact h.elim
def ELp (P : Program) (r : RB) (N : Nat) (all : List Oper) : Nat → List Oper → St → (St → Prop) → Prop
  | 0, o :: rest, s, K => o.guard = none ∧ EPb P N o s fun s' => EL P r N all rest s' K
  | k + 1, o :: rest, s, K => o.guard = none ∧ EO P r N o s fun s' => ELp P r N all k rest s' K
  | _, [], _, _ => False
theorem ELp_sound : ∀ {l : List Oper} {k : Nat} {s : St} {K : St → Prop}, ELp P r N all k l s K → AL P r N all l s K
  | ⟨dst, op, ty, pos, after, g⟩ :: rest, 0, s, K, h => by
    obtain ⟨h1, h2⟩ := h
    have h1 : g = none := h1
    subst h1
    exact AL.step ((EPb_sound h2).mono fun s' h' => EL_sound h')
  | ⟨dst, op, ty, pos, after, g⟩ :: rest, k + 1, s, K, h => by
    obtain ⟨h1, h2⟩ := h
    have h1 : g = none := h1
    subst h1
    exact AL.step ((EO_sound h2).mono fun s' h' => ELp_sound h')
  | [], 0, _, _, h => h.elim
  | [], _ + 1, _, _, h => h.elim
theorem awp_pure (k : Nat) {Q : AEx → St → Prop} {id : Nat} {ops : List Oper} (h : ELp P r N ops k ops s (Q .normal)) : AWP P r N (.region id ops.toArray false) s Q := awp_region (ELp_sound h)
def EKp (P : Program) (r : RB) (N : Nat) (all : List Oper) (k : Nat) (rest : List Oper) (K : St → Prop) (s : St) : Prop := ELp P r N all k rest s K
theorem EKp_mk {t : Nat → AV} {o : Nat → Option AO} {k : Nat} : EKp P r N all k rest K ⟨t, o⟩ = ELp P r N all k rest ⟨t, o⟩ K := rfl
theorem ELp_0 {o : Op} : ELp P r N all 0 (⟨dst, o, ty, pos, after, none⟩ :: rest) s K = EPb P N ⟨dst, o, ty, pos, after, none⟩ s (EK P r N all rest K) := propext ⟨fun h => h.2, fun h => ⟨rfl, h⟩⟩
theorem ELp_s {o : Op} {k : Nat} : ELp P r N all (k + 1) (⟨dst, o, ty, pos, after, none⟩ :: rest) s K = EO P r N ⟨dst, o, ty, pos, after, none⟩ s (EKp P r N all k rest K) := propext ⟨fun h => h.2, fun h => ⟨rfl, h⟩⟩
end
end AM
end
/- The laws' examples. -/
section
namespace AM.Try
open Go AM AM.Duty
open Nat renaming reduceLT → sA, reduceAdd → sB, reduceMul → sC, reduceSub → sD, reduceLeDiff → sE, reduceEqDiff → sF, reduceBEq → sG
open Int renaming reduceAdd → sH, reduceSub → sI, reduceMul → sJ, reduceLT → sK, reduceLE → sL, reduceNeg → sM, reduceToNat → sN, reduceEq → sO
set_option maxHeartbeats 8000000
set_option maxRecDepth 100000
theorem c45 (lo hi : Int) : PCall Go.Proofs.Try.prog 45 [i64 lo, i64 hi] (.agg [i64 lo, i64 hi]) := by
  refine pcall_mk (v := []) (q := []) (N := 8) (rs := [.cell 4 54]) Go.Proofs.Try.func45 rfl rfl rfl rfl rfl ?_
  refine awp_seq_k fun K1 hK1 => ?_
  refine awp_ops ?_
  simp (disch := omega) only [amL, amT, sA, sB, ↓reduceIte]
  refine hK1 _ ?_
  refine awp_seq_k fun K2 hK2 => ?_
  refine awp_ops ?_
  simp (disch := omega) only [amL, amT, sA, sB, sE, sF, ↓reduceIte, reduceCtorEq]
  refine hK2 _ ?_
  refine awp_ret ?_
  try simp (disch := omega) only [amL, amT, sB, sF, ↓reduceIte]
  skip
def threeA (more : List Entry) : Acc := ⟨4, 100, 1000, 300, [⟨0, 20⟩, ⟨3, 30⟩], [⟨0, 0, 40, 42, 0⟩, ⟨1, 1, 0, 0, 200⟩, ⟨2, 2, 10, 10, 0⟩, ⟨0, 3, 20, 20, 0⟩] ++ more⟩
theorem c44 (more : List Entry) (h : more.length < 1000000) : PCall Go.Proofs.Try.prog 44 [.p (.sl (more.map encE))] (avA (threeA more)) := by
  refine pcall_mk (v := []) (q := []) (N := 17) (rs := [.cell 2 35]) Go.Proofs.Try.func44 rfl rfl rfl rfl rfl ?_
  refine awp_seq_k fun K1 hK1 => ?_
  refine awp_ops ?_
  simp (disch := omega) only [amL, amT, sA, sB, ↓reduceIte]
  refine hK1 _ ?_
  refine awp_seq_k fun K2 hK2 => ?_
  refine awp_ops ?_
  simp (disch := omega) only [amL, amT, sA, sB, sC, sE, sF, ↓reduceIte, reduceCtorEq]
  repeat' first | (refine EC_intro (by kernel_rfl) rfl (c45 _ _) (by first | exact .inl rfl | exact .inr (.inl rfl)) ?_ ; simp (disch := omega) only [encE_all, amL, amT, sA, sB, sC, sE, sF, ↓reduceIte, reduceCtorEq])
  refine hK2 _ ?_
  refine awp_ret ?_
  try simp (disch := omega) only [amL, amT, sB, sF, ↓reduceIte]
  rw [List.take_of_length_le (by simp; omega)]; rfl
end AM.Try
end
/- The laws' examples are returned. -/
section
namespace AM.Try
open Go AM AM.Duty
open Nat renaming reduceLT → sA, reduceAdd → sB, reduceMul → sC, reduceSub → sD, reduceLeDiff → sE, reduceEqDiff → sF, reduceBEq → sG
open Int renaming reduceAdd → sH, reduceSub → sI, reduceMul → sJ, reduceLT → sK, reduceLE → sL, reduceNeg → sM, reduceToNat → sN, reduceEq → sO
set_option maxHeartbeats 8000000
set_option maxRecDepth 100000
abbrev t0 : Acc := threeA []
abbrev t1 : Acc := threeA [⟨3, 0, 0, 0, 830⟩]
theorem in0 : ∀ e ∈ t0.entries, inR e.lo = true ∧ inR e.hi = true := by decide
theorem in1 : ∀ e ∈ t1.entries, inR e.lo = true ∧ inR e.hi = true := by decide
theorem a21 : PCall Go.Proofs.Try.prog 21 [avA t0, isl [40, 0, 10, 20]] (.tup [isl [800, 608, 415, 1020, 1031], i64 0]) := by
  have h := c21 t0 [40, 0, 10, 20] (by decide) (by decide) (by decide) in0
  have e : playA t0 [40, 0, 10, 20] = .tup [isl [800, 608, 415, 1020, 1031], i64 0] := by kernel_rfl
  rw [e] at h; exact h
theorem a30 : PCall Go.Proofs.Try.prog 30 [avA t0] (.tup [.p (.sl [[iv 800, iv 840], [iv 608, iv 649], [iv 415, iv 456], [iv 1020, iv 1061], [iv 1031, iv 1072]]), i64 0]) := by
  have h := c30 t0 (by decide) (by decide) in0
  have e : boundsA t0 = .tup [.p (.sl [[iv 800, iv 840], [iv 608, iv 649], [iv 415, iv 456], [iv 1020, iv 1061], [iv 1031, iv 1072]]), i64 0] := by kernel_rfl
  rw [e] at h; exact h
theorem a31 : PCall Go.Proofs.Try.prog 31 [avA t0] (.tup [i64 2, i64 0]) := by
  have h := c31 t0 (by decide) (by decide) in0
  have e : keptA t0 = .tup [i64 2, i64 0] := by kernel_rfl
  rw [e] at h; exact h
theorem a37 : PCall Go.Proofs.Try.prog 37 [avA t0] (.tup [isl [3], i64 0]) := by
  have h := c37 t0 (by decide) (by decide) in0
  have e : paysA t0 = .tup [isl [3], i64 0] := by kernel_rfl
  rw [e] at h; exact h
theorem a42 : PCall Go.Proofs.Try.prog 42 [avA t1] (.tup [isl [4], i64 0]) := by
  have h := c42 t1 (by decide) (by decide) in1
  have e : leaveA t1 = .tup [isl [4], i64 0] := by kernel_rfl
  rw [e] at h; exact h
theorem a38 : PCall Go.Proofs.Try.prog 38 [avA t0, isl [3], i64 1] (bl true) := by
  have h := c38 t0 [3] 1 (by decide) (by decide) in0 (by decide)
  have e : provesA t0 [3] 1 = true := by kernel_rfl
  rw [e] at h; exact h
theorem a44 : PCall Go.Proofs.Try.prog 44 [.p (.sl [])] (avA t0) := c44 [] (by decide)
theorem a44b : PCall Go.Proofs.Try.prog 44 [.p (.sl [[iv 3, iv 0, iv 0, iv 0, iv 830]])] (avA t1) := c44 [⟨3, 0, 0, 0, 830⟩] (by decide)
theorem e54a : aggEq Go.Proofs.Try.prog .eql 54 (some [800, 840]) (some [800, 840]) = some (.pure (bl true)) := by
  rw [aggEq_eql (a := [800, 840]) (b := [800, 840]) ints54 rfl (by decide) (by decide)]; rfl
theorem e54b : aggEq Go.Proofs.Try.prog .eql 54 (some [1031, 1072]) (some [1031, 1072]) = some (.pure (bl true)) := by
  rw [aggEq_eql (a := [1031, 1072]) (b := [1031, 1072]) ints54 rfl (by decide) (by decide)]; rfl
theorem a28a : PCall Go.Proofs.Try.prog 28 [isl [800, 608, 415, 1020, 1031], isl [800, 608, 415, 1020, 1031]] (bl true) := c28 _ _ (by decide) (by decide)
theorem a28b : PCall Go.Proofs.Try.prog 28 [isl [3], isl [3]] (bl true) := c28 _ _ (by decide) (by decide)
theorem a28c : PCall Go.Proofs.Try.prog 28 [isl [4], isl [4]] (bl true) := c28 _ _ (by decide) (by decide)
theorem c20 : PCall Go.Proofs.Try.prog 20 [] (bl true) := by
  refine pcall_mk (v := []) (q := []) (N := 100) (rs := [.tmp 0]) Go.Proofs.Try.func20 rfl rfl rfl rfl rfl ?_
  refine awp_seq_k fun K1 hK1 => ?_
  refine awp_ops ?_
  simp (disch := omega) only [amL, sA]
  refine hK1 _ ?_
  refine awp_seq_k fun K2 hK2 => ?_
  refine awp_pure 1 ?_
  simp (disch := omega) only [ELp_s, amL]
  repeat' first | (refine EC_intro (by kernel_rfl) rfl (by first | exact a44b | exact PCall.of_nil 0 rfl a44) (by first | exact .inl rfl | exact .inr (.inl rfl)) ?_ ; simp (disch := omega) only [ELp_0, EKp_mk, EPb_bs, EPp_new, amL, amT, sA, sB, sE, sF, ↓reduceIte, reduceCtorEq]) | (refine EC_intro (by kernel_rfl) rfl (a21) (by first | exact .inl rfl | exact .inr (.inl rfl)) ?_ ; simp (disch := omega) only [amL, sA, sF, ↓reduceIte])
  refine hK2 _ ?_
  refine awp_seq_k fun K3 hK3 => ?_
  refine awp_ops ?_
  simp (disch := omega) only [amL]
  repeat' first | (refine EC_intro (by kernel_rfl) rfl (by first | exact a44b | exact PCall.of_nil 0 rfl a44) (by first | exact .inl rfl | exact .inr (.inl rfl)) ?_ ; simp (disch := omega) only [amL, ↓reduceIte]) | (refine EC_intro (by kernel_rfl) rfl (a30) (by first | exact .inl rfl | exact .inr (.inl rfl)) ?_ ; simp (disch := omega) only [amL, sA, sF, ↓reduceIte])
  refine hK3 _ ?_
  refine awp_seq_k fun K4 hK4 => ?_
  refine awp_ops ?_
  simp (disch := omega) only [amL]
  repeat' first | (refine EC_intro (by kernel_rfl) rfl (by first | exact a44b | exact PCall.of_nil 0 rfl a44) (by first | exact .inl rfl | exact .inr (.inl rfl)) ?_ ; simp (disch := omega) only [amL, ↓reduceIte]) | (refine EC_intro (by kernel_rfl) rfl (a31) (by first | exact .inl rfl | exact .inr (.inl rfl)) ?_ ; simp (disch := omega) only [amL, sA, sF, ↓reduceIte])
  refine hK4 _ ?_
  refine awp_seq_k fun K5 hK5 => ?_
  refine awp_ops ?_
  simp (disch := omega) only [amL]
  repeat' first | (refine EC_intro (by kernel_rfl) rfl (by first | exact a44b | exact PCall.of_nil 0 rfl a44) (by first | exact .inl rfl | exact .inr (.inl rfl)) ?_ ; simp (disch := omega) only [amL, ↓reduceIte]) | (refine EC_intro (by kernel_rfl) rfl (a37) (by first | exact .inl rfl | exact .inr (.inl rfl)) ?_ ; simp (disch := omega) only [amL, sA, sF, ↓reduceIte])
  refine hK5 _ ?_
  refine awp_seq_k fun K6 hK6 => ?_
  refine awp_pure 1 ?_
  simp (disch := omega) only [ELp_0, ELp_s, EKp_mk, EPb_bs, EPp_new, amL, amT, sA, sB, sC, sE, ↓reduceIte, reduceCtorEq]
  repeat' first | (refine EC_intro (by kernel_rfl) rfl (by first | exact a44b | exact PCall.of_nil 0 rfl a44) (by first | exact .inl rfl | exact .inr (.inl rfl)) ?_ ; simp (disch := omega) only [amL, ↓reduceIte]) | (refine EC_intro (by kernel_rfl) rfl (a42) (by first | exact .inl rfl | exact .inr (.inl rfl)) ?_ ; simp (disch := omega) only [amL, sA, sF, ↓reduceIte])
  refine hK6 _ ?_
  refine awp_seq_k fun K7 hK7 => ?_
  refine awp_any2 (by kernel_rfl) (by kernel_rfl) ?_
  simp (disch := omega) only [amL, amT, sA, sB, sE, sF, ↓reduceIte, reduceCtorEq]
  repeat' first | (refine EG_dec (fun h => ?_) (fun h => ?_) <;> simp (disch := omega) only [h, ELp_0, ELp_s, EKp_mk, EPb_bs, EPp_new, e54a, e54b, intsOf2, amL, amT, sA, sB, sC, sD, sE, sF, sG, sH, sI, sJ, sK, sL, sM, sN, sO, ↓reduceIte, reduceCtorEq]) | (refine EG_cases (fun h => ?_) (fun h => ?_) <;> simp (disch := omega) only [h, ELp_0, ELp_s, EKp_mk, EPb_bs, EPp_new, e54a, e54b, intsOf2, amL, amT, sA, sB, sC, sD, sE, sF, sG, sH, sI, sJ, sK, sL, sM, sN, sO, ↓reduceIte, reduceCtorEq]) | (refine EC_intro (by kernel_rfl) rfl (by first | exact a28a | exact a28b | exact a28c) (by first | exact .inl rfl | exact .inr (.inl rfl)) ?_ ; simp (disch := omega) only [amL, amT, sA, sB, sF, sH, sK, sL, sN, ↓reduceIte]) | (refine EC_intro (by kernel_rfl) rfl (c45 _ _) (by first | exact .inl rfl | exact .inr (.inl rfl)) ?_ ; simp (disch := omega) only [e54a, e54b, amL, amT, sA, sB, sE, sF, sH, sK, sL, sN, ↓reduceIte, reduceCtorEq]) | (refine EC_intro (by kernel_rfl) rfl (by first | exact a44b | exact PCall.of_nil 0 rfl a44) (by first | exact .inl rfl | exact .inr (.inl rfl)) ?_ ; simp (disch := omega) only [amL, sA, sF, ↓reduceIte]) | (refine EC_intro (by kernel_rfl) rfl (a38) (by first | exact .inl rfl | exact .inr (.inl rfl)) ?_ ; simp (disch := omega) only [amL, amT, sA, sE, sF, ↓reduceIte, reduceCtorEq])
  all_goals
   skip
   refine hK7 _ ?_
   refine awp_ret ?_
   try simp (disch := omega) only [amL, ↓reduceIte]
   all_goals rfl
end AM.Try
end
/- Plain laws: what the program plays is what the reference reckons. -/
section
namespace AM.Try
open Go AM AM.Duty
open Nat renaming reduceLT → sA, reduceAdd → sB, reduceMul → sC, reduceSub → sD, reduceLeDiff → sE, reduceEqDiff → sF, reduceBEq → sG
open Int renaming reduceAdd → sH, reduceSub → sI, reduceMul → sJ, reduceLT → sK, reduceLE → sL, reduceNeg → sM, reduceToNat → sN, reduceEq → sO
def ratedG (l : List Rate) (p : Int) : Nat → Int
  | 0 => p
  | x + 1 => (findR l x).getD (ratedG l p x)
theorem ratedG_zero (l : List Rate) : ∀ x, ratedX l x = ratedG l 0 x
  | 0 => rfl
  | x + 1 => by simp only [ratedX, ratedG, ratedG_zero l x]
theorem findR_none {l : List Rate} {d : Int} (h : ∀ r ∈ l, d < r.day) : findR l d = none := by
  induction l with
  | nil => rfl
  | cons r l ih =>
    simp only [findR]
    rw [if_neg (by have := h r (by simp); omega)]
    exact ih fun r hr => h r (by simp [hr])
theorem ratedG_low {l : List Rate} {q : Int} : ∀ {x : Nat}, (∀ r ∈ l, (x : Int) ≤ r.day) → ratedG l q x = q
  | 0, _ => rfl
  | x + 1, h => by
    simp only [ratedG]
    rw [findR_none fun r hr => by have := h r hr; omega, ratedG_low fun r hr => by have := h r hr; omega]
    rfl
theorem rates_gt {last : Int} : ∀ {l : List Rate} {prev : Int}, ratesS last prev l = true → ∀ r ∈ l, prev < r.day
  | [], _, _, r, hr => by cases hr
  | x :: l, prev, h, r, hr => by
    simp only [ratesS, Bool.and_eq_true, decide_eq_true_eq] at h
    rcases List.mem_cons.1 hr with rfl | hr
    · exact h.2.2.1
    · have := rates_gt h.2.2.2 r hr; omega
theorem ratedG_cons {r : Rate} {l : List Rate} {p : Int} (h0 : 0 ≤ r.day) (h : ∀ x ∈ l, r.day < x.day) : ∀ x : Nat, ratedG (r :: l) p x = ratedG l (if r.day < x then r.pence else p) x
  | 0 => by simp only [ratedG]; rw [if_neg (by omega)]
  | x + 1 => by
    simp only [ratedG, findR]
    by_cases e : r.day = x
    · rw [if_pos e, if_pos (by omega), show findR l x = none from findR_none fun y hy => by have := h y hy; omega, show ratedG l r.pence x = r.pence from ratedG_low fun y hy => by have := h y hy; omega]
      rfl
    · rw [if_neg e, ratedG_cons h0 h x]
      by_cases e2 : r.day < x
      · rw [if_pos e2, if_pos (by omega)]
      · rw [if_neg e2, if_neg (by omega)]
theorem rateOn_G {last : Int} : ∀ {l : List Rate} {prev p : Int} {d : Nat}, -1 ≤ prev → ratesS last prev l = true → rateOn d l p = ratedG l p (d + 1)
  | [], prev, p, d, _, _ => by
    have h : ∀ x, ratedG [] p x = p := fun x => ratedG_low fun r hr => by cases hr
    rw [h]; rfl
  | r :: l, prev, p, d, h0, h => by
    have h1 := h
    simp only [ratesS, Bool.and_eq_true, decide_eq_true_eq] at h1
    rw [ratedG_cons (by omega) (rates_gt h1.2.2.2)]
    show rateOn d l (if r.day ≤ d then r.pence else p) = _
    rw [rateOn_G (by omega) h1.2.2.2]
    congr 1
    by_cases e : r.day ≤ d
    · rw [if_pos e, if_pos (by omega)]
    · rw [if_neg e, if_neg (by omega)]
theorem rate_eq {a : Acc} (h : ratesS a.last (-1) a.rates = true) (d : Nat) : rateOn d a.rates 0 = ratedX a.rates (d + 1) := by
  rw [rateOn_G (Int.le_refl _) h, ratedG_zero]
abbrev kinds (es : List Entry) : Prop := ∀ e ∈ es, 0 ≤ e.kind ∧ e.kind ≤ 3
theorem stepE_ok {rate day : Int} {e : Entry} {u : Int} {w : Wk} (h : w.ok = false) : (stepE rate day e u w).ok = false := by
  unfold stepE; split
  · exact h
  · split
    · exact h
    · split
      · exact h
      · split
        · simp [h]
        · split
          · simp [h]
          · exact h
theorem dayF_ok {rate day : Int} : ∀ {es : List Entry} {t : List Int} {w : Wk}, w.ok = false → (dayF rate day es t w).ok = false
  | [], t, w, h => by cases t <;> exact h
  | e :: es, [], w, h => h
  | e :: es, u :: us, w, h => dayF_ok (es := es) (t := us) (stepE_ok h)
theorem step_ask {rate day : Int} {e : Entry} {u d n : Int} (hk : 0 ≤ e.kind ∧ e.kind ≤ 3) :
    (stepP true rate day e u (d, n)).2 = (stepE rate day e u ⟨d, d, n, true⟩).ok ∧ ((stepE rate day e u ⟨d, d, n, true⟩).ok = true → stepE rate day e u ⟨d, d, n, true⟩ = ⟨(stepP true rate day e u (d, n)).1.1, (stepP true rate day e u (d, n)).1.1, (stepP true rate day e u (d, n)).1.2, true⟩) := by
  unfold stepP stepE actP
  by_cases e1 : e.day = day
  · simp only [e1, not_true_eq_false, if_false, Bool.true_eq_false, and_false]
    by_cases k0 : e.kind = 0
    · simp [k0]
    · by_cases k1 : e.kind = 1
      · simp [k1]
      · by_cases k2 : e.kind = 2
        · simp [k2]
        · have k3 : e.kind = 3 := by omega
          simp [k3]
  · simp [e1]
theorem day_ask {rate day : Int} : ∀ {es : List Entry} {t : List Int} {d n : Int}, kinds es →
    dayP true rate day es t (d, n) = (if (dayF rate day es t ⟨d, d, n, true⟩).ok = true then some ((dayF rate day es t ⟨d, d, n, true⟩).debt, (dayF rate day es t ⟨d, d, n, true⟩).units) else none) ∧ ((dayF rate day es t ⟨d, d, n, true⟩).ok = true → (dayF rate day es t ⟨d, d, n, true⟩).plain = (dayF rate day es t ⟨d, d, n, true⟩).debt)
  | [], t, d, n, _ => by cases t <;> exact ⟨rfl, fun _ => rfl⟩
  | e :: es, [], d, n, _ => ⟨rfl, fun _ => rfl⟩
  | e :: es, u :: us, d, n, hk => by
    obtain ⟨h1, h2⟩ := step_ask (rate := rate) (day := day) (e := e) (u := u) (d := d) (n := n) (hk e (by simp))
    simp only [dayP, dayF]
    cases hok : (stepE rate day e u ⟨d, d, n, true⟩).ok with
    | false =>
      have hz := dayF_ok (rate := rate) (day := day) (es := es) (t := us) hok
      simp only [h1, hok, hz, Bool.false_eq_true, if_false, false_implies, and_self]
    | true =>
      have e2 := h2 hok
      simp only [h1, if_true, e2]
      exact day_ask fun e he => hk e (by simp [he])
theorem debts_ok {a : Acc} {t paid : List Int} : ∀ {c day : Nat} {w : Wk}, w.ok = false → (debtsF a t paid c day w).2 = false
  | 0, _, _, h => h
  | c + 1, day, w, h => by
    have h1 : (dayS a t paid day w).ok = false := by
      have h2 : (dayF (ratedX a.rates (day + 1)) day a.entries t (dayI a w)).ok = false := dayF_ok h
      unfold dayS; dsimp only
      split <;> exact h2
    simp only [debtsF]
    exact debts_ok h1
theorem play_ask {a : Acc} {t : List Int} (hr : ratesS a.last (-1) a.rates = true) (hk : kinds a.entries) : ∀ {c day : Nat} {d n : Int},
    (playF a t [] true c day (d, n)).2 = (debtsF a t [] c day ⟨d, d, n, true⟩).2 ∧ ((debtsF a t [] c day ⟨d, d, n, true⟩).2 = true → (playF a t [] true c day (d, n)).1 = (debtsF a t [] c day ⟨d, d, n, true⟩).1)
  | 0, day, d, n => ⟨rfl, fun _ => rfl⟩
  | c + 1, day, d, n => by
    rw [playF_succ, rate_eq hr]
    simp only [debtsF]
    have hdi : dayI a ⟨d, d, n, true⟩ = ⟨d + intS a.interest d, d + intS a.interest d, n, true⟩ := rfl
    have hds : dayS a t [] day ⟨d, d, n, true⟩ = dayF (ratedX a.rates (day + 1)) day a.entries t ⟨d + intS a.interest d, d + intS a.interest d, n, true⟩ := by
      unfold dayS; rw [hdi]; dsimp only; rw [if_neg (by simp)]
    rw [hds]
    obtain ⟨h1, h2⟩ := day_ask (rate := ratedX a.rates (day + 1)) (day := day) (es := a.entries) (t := t) (d := d + intS a.interest d) (n := n) hk
    have h1 : dayP true (ratedX a.rates (day + 1)) day a.entries t (intP a (d, n)) = _ := h1
    rw [h1]
    generalize hw : dayF (ratedX a.rates (day + 1)) day a.entries t ⟨d + intS a.interest d, d + intS a.interest d, n, true⟩ = w at h2 ⊢
    obtain ⟨wd, wp, wu, wo⟩ := w
    cases wo with
    | false =>
      have := debts_ok (a := a) (t := t) (paid := []) (c := c) (day := day + 1) (w := ⟨wd, wp, wu, false⟩) rfl
      simp only [Bool.false_eq_true, if_false]
      rw [this]
      exact ⟨rfl, fun h => by cases h⟩
    | true =>
      have h3 : wp = wd := h2 rfl
      subst h3
      have hp : payP a [] day (wp, wu) = (wp, wu) := by unfold payP; rw [if_neg (by simp)]
      simp only [if_true, hp]
      obtain ⟨h4, h5⟩ := play_ask hr hk (c := c) (day := day + 1) (d := wp) (n := wu)
      exact ⟨h4, fun h => by rw [h5 h]⟩
theorem kinds_of {a : Acc} (hf : faultS a = 0) : kinds a.entries := fun e he => by
  have h := List.all_eq_true.1 (fault_zero hf).2.2.2.2.1 e he
  rw [isEntry_eq] at h
  simp only [Bool.and_eq_true] at h
  have h2 := h.2
  unfold validE at h2
  split at h2
  · omega
  · split at h2
    · omega
    · split at h2
      · omega
      · split at h2
        · omega
        · cases h2
theorem playS_ask {a : Acc} (hf : faultS a = 0) (t : List Int) : (playS a t [] true).2 = (debtsS a t []).2 ∧ ((debtsS a t []).2 = true → (playS a t [] true).1 = (debtsS a t []).1) :=
  play_ask (fault_zero hf).2.2.2.1 (kinds_of hf)
theorem listed_eq : ∀ (es : List Entry) (t : List Int), listedP es t = listedS es t
  | [], [] => rfl
  | [], _ :: _ => rfl
  | _ :: _, [] => rfl
  | e :: es, u :: us => by simp only [listedP, listedS, listed_eq es us]
end AM.Try
end
