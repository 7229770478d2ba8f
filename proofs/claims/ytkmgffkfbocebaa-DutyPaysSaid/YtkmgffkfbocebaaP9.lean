/- Lemmas for the proof: more of the program's functions, walked on the abstract machine. -/
import Derived.Test.YtkmgffkfbocebaaP7
/- Plain laws: payments; the search for the fewest. -/
section
namespace AM.Try
open Go AM AM.Duty
open Nat renaming reduceLT → sA, reduceAdd → sB, reduceMul → sC, reduceSub → sD, reduceLeDiff → sE, reduceEqDiff → sF, reduceBEq → sG
open Int renaming reduceAdd → sH, reduceSub → sI, reduceMul → sJ, reduceLT → sK, reduceLE → sL, reduceNeg → sM, reduceToNat → sN, reduceEq → sO
theorem step_no {rate day : Int} {e : Entry} {u d p n : Int} (hk : 0 ≤ e.kind ∧ e.kind ≤ 3) (h : (stepE rate day e u ⟨d, p, n, true⟩).ok = true) :
    stepP false rate day e u (d, n) = (((stepE rate day e u ⟨d, p, n, true⟩).debt, (stepE rate day e u ⟨d, p, n, true⟩).units), true) := by
  unfold stepE at h ⊢
  unfold stepP actP
  by_cases e1 : e.day = day
  · simp only [e1, not_true_eq_false, if_false] at h ⊢
    by_cases k0 : e.kind = 0
    · simp [k0]
    · by_cases k1 : e.kind = 1
      · simp [k1]
      · by_cases k2 : e.kind = 2
        · simp [k2] at h ⊢; exact h
        · have k3 : e.kind = 3 := by omega
          simp [k3]
  · simp [e1]
theorem day_no {rate day : Int} : ∀ {es : List Entry} {t : List Int} {w : Wk}, kinds es → w.ok = true → (dayF rate day es t w).ok = true →
    dayP false rate day es t (w.debt, w.units) = some ((dayF rate day es t w).debt, (dayF rate day es t w).units)
  | [], t, w, _, _, _ => by cases t <;> rfl
  | e :: es, [], w, _, _, _ => rfl
  | e :: es, u :: us, w, hk, hw, h => by
    obtain ⟨d, p, n, o⟩ := w
    dsimp only at hw; subst hw
    have h1 : (stepE rate day e u ⟨d, p, n, true⟩).ok = true := by
      cases hc : (stepE rate day e u ⟨d, p, n, true⟩).ok with
      | true => rfl
      | false => have := dayF_ok (rate := rate) (day := day) (es := es) (t := us) hc; simp only [dayF] at h; rw [this] at h; cases h
    have h2 := step_no (p := p) (hk e (by simp)) h1
    simp only [dayP, dayF, h2, if_true] at h ⊢
    exact day_no (fun e he => hk e (by simp [he])) h1 h
theorem dayI_ok {a : Acc} {w : Wk} : (dayI a w).ok = w.ok := rfl
theorem dayS_ok {a : Acc} {t paid : List Int} {day : Nat} {w : Wk} : (dayS a t paid day w).ok = (dayF (ratedX a.rates (day + 1)) day a.entries t (dayI a w)).ok := by
  unfold dayS; dsimp only; split <;> rfl
theorem debts_true {a : Acc} {t paid : List Int} {c day : Nat} {w : Wk} (h : (debtsF a t paid c day w).2 = true) : w.ok = true := by
  cases hw : w.ok with
  | true => rfl
  | false => rw [debts_ok hw] at h; cases h
theorem play_no {a : Acc} {t paid : List Int} (hr : ratesS a.last (-1) a.rates = true) (hk : kinds a.entries) : ∀ {c day : Nat} {w : Wk},
    (debtsF a t paid c day w).2 = true → (playF a t paid false c day (w.debt, w.units)).1 = (debtsF a t paid c day w).1
  | 0, _, _, _ => rfl
  | c + 1, day, w, h => by
    have hw := debts_true h
    simp only [debtsF] at h
    have h1 := debts_true h
    rw [dayS_ok] at h1
    have h2 := day_no (w := dayI a w) hk hw h1
    rw [playF_succ, rate_eq hr]
    have h2 : dayP false (ratedX a.rates (day + 1)) day a.entries t (intP a (w.debt, w.units)) = _ := h2
    rw [h2]
    have h3 : payP a paid day ((dayF (ratedX a.rates (day + 1)) day a.entries t (dayI a w)).debt, (dayF (ratedX a.rates (day + 1)) day a.entries t (dayI a w)).units) = ((dayS a t paid day w).debt, (dayS a t paid day w).units) := by
      unfold payP dayS; dsimp only; split <;> rfl
    simp only [h3, debtsF]
    rw [play_no hr hk h]
def alike (w v : Wk) : Prop := w.plain = v.plain ∧ w.units = v.units ∧ w.ok = v.ok
theorem step_alike {rate day : Int} {e : Entry} {u : Int} {w v : Wk} (h : alike w v) : alike (stepE rate day e u w) (stepE rate day e u v) := by
  obtain ⟨h1, h2, h3⟩ := h
  unfold stepE alike
  split
  · exact ⟨h1, h2, h3⟩
  · split
    · simp [h1, h2, h3]
    · split
      · simp [h1, h2, h3]
      · split
        · simp [h1, h2, h3]
        · split
          · simp [h1, h2, h3]
          · exact ⟨h1, h2, h3⟩
theorem day_alike {rate day : Int} : ∀ {es : List Entry} {t : List Int} {w v : Wk}, alike w v → alike (dayF rate day es t w) (dayF rate day es t v)
  | [], t, w, v, h => by cases t <;> exact h
  | e :: es, [], w, v, h => h
  | e :: es, u :: us, w, v, h => day_alike (es := es) (t := us) (step_alike h)
theorem dayS_alike {a : Acc} {t p q : List Int} {day : Nat} {w v : Wk} (h : alike w v) : alike (dayS a t p day w) (dayS a t q day v) := by
  have h1 : alike (dayI a w) (dayI a v) := by obtain ⟨h1, h2, h3⟩ := h; exact ⟨by simp [dayI, h1], h2, h3⟩
  have h2 := day_alike (rate := ratedX a.rates (day + 1)) (day := day) (es := a.entries) (t := t) h1
  unfold dayS; dsimp only
  split <;> split <;> exact h2
theorem debts_paid {a : Acc} {t p q : List Int} : ∀ {c day : Nat} {w v : Wk}, alike w v → (debtsF a t p c day w).2 = (debtsF a t q c day v).2
  | 0, _, _, _, h => h.2.2
  | c + 1, day, _, _, h => debts_paid (c := c) (day := day + 1) (dayS_alike (a := a) (t := t) (p := p) (q := q) (day := day) h)
def holdsR (a : Acc) (days : List Int) : Bool := (truthsR a).all fun t => keepsS a.bond (debtsS a t days).1
theorem truthsR_is {a : Acc} {t : List Int} (h : t ∈ truthsR a) : isTruth a t = true := (List.mem_filter.1 h).2
theorem holds1_eq {a : Acc} (hf : faultS a = 0) {t : List Int} (days : List Int) (h : isTruth a t = true) : holds1 a days t = keepsS a.bond (debtsS a t days).1 := by
  have h1 : (debtsF a t days (a.last + 1).toNat 0 ⟨0, 0, 0, true⟩).2 = true := by
    rw [debts_paid (q := []) (v := ⟨0, 0, 0, true⟩) ⟨rfl, rfl, rfl⟩]; exact h
  have h2 := play_no (fault_zero hf).2.2.2.1 (kinds_of hf) h1
  unfold holds1
  rw [show (playS a t days false).1 = (debtsS a t days).1 from h2]
  unfold keepsP keepsS
  rw [pad_take2 (debts_full t days)]
theorem all_mem {α : Type} {l r : List α} {p q : α → Bool} (h : ∀ x, x ∈ l ↔ x ∈ r) (he : ∀ x ∈ r, p x = q x) : l.all p = r.all q := by
  rw [Bool.eq_iff_iff, List.all_eq_true, List.all_eq_true]
  constructor
  · intro h1 x hx; rw [← he x hx]; exact h1 x ((h x).2 hx)
  · intro h1 x hx; rw [he x ((h x).1 hx)]; exact h1 x ((h x).1 hx)
theorem good_eq {a : Acc} (hf : faultS a = 0) (days : List Int) : good a days = holdsR a days :=
  all_mem (fun x => by rw [List.mem_reverse]; exact mem_truths hf) fun x hx => holds1_eq hf days (truthsR_is hx)
def Best (P : List Int → Bool) (lt : List Int → List Int → Bool) : Option (List Int) → Prop
  | none => ∀ l, P l = false
  | some b => P b = true ∧ ∀ l, P l = true → lt l b = false
theorem best_unique {P : List Int → Bool} {lt : List Int → List Int → Bool} (ht : ∀ a b, lt a b = false → lt b a = false → a = b) : ∀ {r s : Option (List Int)}, Best P lt r → Best P lt s → r = s
  | none, none, _, _ => rfl
  | none, some b, h1, h2 => by have := h1 b; rw [h2.1] at this; cases this
  | some b, none, h1, h2 => by have := h2 b; rw [h1.1] at this; cases this
  | some b, some c, h1, h2 => by rw [ht b c (h2.2 b h1.1) (h1.2 c h2.1)]
theorem same_of_before {a b : List Int} (hl : a.length = b.length) (h1 : beforeS a b = false) (h2 : beforeS b a = false) : a = b := by
  have := before_same a b hl
  rw [h1, h2] at this
  simpa using this
theorem before_trans : ∀ {a b c : List Int}, beforeS a b = true → beforeS b c = true → beforeS a c = true
  | [], [], c, h, _ => by cases h
  | [], _ :: _, [], _, h => by cases h
  | [], _ :: _, _ :: _, _, _ => rfl
  | _ :: _, [], c, h, _ => by cases h
  | _ :: _, _ :: _, [], _, h => by cases h
  | x :: a, y :: b, z :: c, h1, h2 => by
    simp only [beforeS] at h1 h2 ⊢
    split at h1
    · rename_i e; subst e
      split at h2
      · rename_i e; rw [if_pos e]; exact before_trans h1 h2
      · rename_i e; rw [if_neg e]; exact h2
    · rename_i e
      have h1 := of_decide_eq_true h1
      split at h2
      · rename_i e2; subst e2; rw [if_neg e]; exact decide_eq_true h1
      · have h2 := of_decide_eq_true h2
        rw [if_neg (by omega)]; exact decide_eq_true (by omega)
theorem sooner_iff {a b : List Int} : soonerS a b = true ↔ a.length < b.length ∨ (a.length = b.length ∧ beforeS b a = true) := by simp [soonerS]
theorem shorter_iff {a b : List Int} : shorterS a b = true ↔ a.length < b.length ∨ (a.length = b.length ∧ beforeS a b = true) := by simp [shorterS]
theorem sooner_total (a b : List Int) (h1 : soonerS a b = false) (h2 : soonerS b a = false) : a = b := by
  have g1 : ¬ soonerS a b = true := by simp [h1]
  have g2 : ¬ soonerS b a = true := by simp [h2]
  rw [sooner_iff] at g1 g2
  have hl : a.length = b.length := by omega
  refine same_of_before hl ?_ ?_
  · cases h : beforeS a b
    · rfl
    · exact absurd (.inr ⟨hl.symm, h⟩) g2
  · cases h : beforeS b a
    · rfl
    · exact absurd (.inr ⟨hl, h⟩) g1
theorem shorter_total (a b : List Int) (h1 : shorterS a b = false) (h2 : shorterS b a = false) : a = b := by
  have g1 : ¬ shorterS a b = true := by simp [h1]
  have g2 : ¬ shorterS b a = true := by simp [h2]
  rw [shorter_iff] at g1 g2
  have hl : a.length = b.length := by omega
  refine same_of_before hl ?_ ?_
  · cases h : beforeS a b
    · rfl
    · exact absurd (.inr ⟨hl, h⟩) g1
  · cases h : beforeS b a
    · rfl
    · exact absurd (.inr ⟨hl.symm, h⟩) g2
theorem sooner_trans {a b c : List Int} (h1 : soonerS a b = true) (h2 : soonerS b c = true) : soonerS a c = true := by
  rw [sooner_iff] at *
  rcases h1 with h1 | ⟨h1, g1⟩ <;> rcases h2 with h2 | ⟨h2, g2⟩
  · left; omega
  · left; omega
  · left; omega
  · exact .inr ⟨by omega, before_trans g2 g1⟩
theorem shorter_trans {a b c : List Int} (h1 : shorterS a b = true) (h2 : shorterS b c = true) : shorterS a c = true := by
  rw [shorter_iff] at *
  rcases h1 with h1 | ⟨h1, g1⟩ <;> rcases h2 with h2 | ⟨h2, g2⟩
  · left; omega
  · left; omega
  · left; omega
  · exact .inr ⟨by omega, before_trans g1 g2⟩
def bestStep (H : List Int → Bool) (lt : List Int → List Int → Bool) (b : Option (List Int)) (l : List Int) : Option (List Int) :=
  match b with
  | none => if H l = true then some l else none
  | some c => if lt l c = true ∧ H l = true then some l else some c
theorem best_fold {H : List Int → Bool} {lt : List Int → List Int → Bool} (htr : ∀ a b c, lt a b = true → lt b c = true → lt a c = true) (hir : ∀ a, lt a a = false) :
    ∀ (ls rs : List (List Int)) (b : Option (List Int)), Best (fun l => decide (l ∈ rs) && H l) lt b → Best (fun l => decide (l ∈ rs ++ ls) && H l) lt (ls.foldl (bestStep H lt) b)
  | [], rs, b, h => by simpa using h
  | x :: ls, rs, b, h => by
    have h2 := best_fold (H := H) (lt := lt) htr hir ls (rs ++ [x]) (bestStep H lt b x) (by
      cases b with
      | none =>
        have h : ∀ l, (decide (l ∈ rs) && H l) = false := h
        unfold bestStep; dsimp only
        split
        · rename_i hx
          refine ⟨by simp [hx], fun l hl => ?_⟩
          simp only [Bool.and_eq_true, decide_eq_true_eq, List.mem_append, List.mem_singleton] at hl
          obtain ⟨hl | hl, h3⟩ := hl
          · have := h l; simp [hl, h3] at this
          · subst hl; exact hir _
        · rename_i hx
          intro l
          cases hm : (decide (l ∈ rs ++ [x]) && H l) with
          | false => exact hm
          | true =>
            simp only [Bool.and_eq_true, decide_eq_true_eq, List.mem_append, List.mem_singleton] at hm
            obtain ⟨hl | hl, h3⟩ := hm
            · have := h l; simp [hl, h3] at this
            · subst hl; exact absurd h3 hx
      | some c =>
        obtain ⟨h1, h2⟩ : (decide (c ∈ rs) && H c) = true ∧ ∀ l, (decide (l ∈ rs) && H l) = true → lt l c = false := h
        simp only [Bool.and_eq_true, decide_eq_true_eq] at h1
        unfold bestStep; dsimp only
        split
        · rename_i hx
          refine ⟨by simp [hx.2], fun l hl => ?_⟩
          simp only [Bool.and_eq_true, decide_eq_true_eq, List.mem_append, List.mem_singleton] at hl
          obtain ⟨hl | hl, h3⟩ := hl
          · have h4 := h2 l (by simp [hl, h3])
            cases h5 : lt l x with
            | false => rfl
            | true => rw [htr _ _ _ h5 hx.1] at h4; cases h4
          · subst hl; exact hir _
        · rename_i hx
          refine ⟨by simp [h1], fun l hl => ?_⟩
          simp only [Bool.and_eq_true, decide_eq_true_eq, List.mem_append, List.mem_singleton] at hl
          obtain ⟨hl | hl, h3⟩ := hl
          · exact h2 l (by simp [hl, h3])
          · subst hl
            cases h5 : lt l c with
            | false => rfl
            | true => exact absurd ⟨h5, h3⟩ hx)
    rw [List.append_assoc] at h2
    exact h2
theorem best_of {P Q : List Int → Bool} {lt : List Int → List Int → Bool} (h : ∀ l, P l = Q l) {b : Option (List Int)} (hb : Best P lt b) : Best Q lt b := by
  have : P = Q := funext h
  rw [← this]; exact hb
theorem plan_len {last : Int} : ∀ {l : List Int} {p : Int}, p ≤ last → planS last p l = true → p + l.length ≤ last
  | [], p, h, _ => by simpa using h
  | n :: r, p, h, hp => by
    simp only [planS, Bool.and_eq_true, decide_eq_true_eq] at hp
    have := plan_len hp.2.1 hp.2.2
    simp only [List.length_cons]; omega
theorem downF_none {α : Type} {f : Int → Option α} : ∀ {c : Nat} {n : Int}, downF f c n = none → ∀ k : Nat, k < c → f (n - k) = none
  | 0, n, _, k, h => by omega
  | c + 1, n, h, k, hk => by
    simp only [downF] at h
    split at h
    · cases h
    · rename_i hn
      cases k with
      | zero => simpa using hn
      | succ k => rw [show n - ((k + 1 : Nat) : Int) = n - 1 - k by omega]; exact downF_none h k (by omega)
theorem downF_some {α : Type} {f : Int → Option α} {x : α} : ∀ {c : Nat} {n : Int}, downF f c n = some x → ∃ k : Nat, k < c ∧ f (n - k) = some x ∧ ∀ j : Nat, j < k → f (n - j) = none
  | 0, n, h => by cases h
  | c + 1, n, h => by
    simp only [downF] at h
    split at h
    · rename_i y hn
      cases h
      exact ⟨0, by omega, by simpa using hn, fun j hj => by omega⟩
    · rename_i hn
      obtain ⟨k, h1, h2, h3⟩ := downF_some h
      refine ⟨k + 1, by omega, by rw [show n - ((k + 1 : Nat) : Int) = n - 1 - k by omega]; exact h2, fun j hj => ?_⟩
      cases j with
      | zero => simpa using hn
      | succ j => rw [show n - ((j + 1 : Nat) : Int) = n - 1 - j by omega]; exact h3 j (by omega)
theorem payF_spec {H : List Int → Bool} {last : Int} : ∀ (m : Nat) (days : List Int) (fr : Int),
    (payF H last m days fr = none → ∀ l, l.length = m → planS last (fr - 1) l = true → H (days ++ l) = false) ∧
    (∀ ds, payF H last m days fr = some ds → ∃ l, ds = days ++ l ∧ l.length = m ∧ planS last (fr - 1) l = true ∧ H ds = true ∧ ∀ l', l'.length = m → planS last (fr - 1) l' = true → H (days ++ l') = true → beforeS l l' = false)
  | 0, days, fr => by
    simp only [payF]
    refine ⟨fun h l hl hp0 => ?_, fun ds h => ?_⟩
    · have : l = [] := List.length_eq_zero_iff.1 hl
      subst this
      by_cases hH : H days = true
      · rw [if_pos hH] at h; cases h
      · simpa using hH
    · split at h
      · rename_i hH; cases h
        exact ⟨[], by simp, rfl, rfl, hH, fun l' hl' _ _ => by rw [List.length_eq_zero_iff.1 hl']; rfl⟩
      · cases h
  | m + 1, days, fr => by
    simp only [payF]
    have key : ∀ n r, r.length = m → planS last (fr - 1) (n :: r) = true → ∃ k : Nat, k < (last - m - fr + 1).toNat ∧ last - m - (k : Int) = n ∧ planS last (n + 1 - 1) r = true := fun n r hr hp => by
      simp only [planS, Bool.and_eq_true, decide_eq_true_eq] at hp
      have := plan_len hp.2.1 hp.2.2
      exact ⟨(last - m - n).toNat, by omega, by omega, by rw [show n + 1 - 1 = n by omega]; exact hp.2.2⟩
    refine ⟨fun h l hl hp => ?_, fun ds h => ?_⟩
    · cases l with
      | nil => cases hl
      | cons n r =>
        have hr : r.length = m := by simpa using hl
        obtain ⟨k, hk, e, hp2⟩ := key n r hr hp
        have h1 := downF_none h k hk
        rw [e] at h1
        have := (payF_spec m (days ++ [n]) (n + 1)).1 h1 r hr hp2
        simpa using this
    · obtain ⟨k, hk, h1, h2⟩ := downF_some h
      obtain ⟨r, e, hr, hp, hH, hb⟩ := (payF_spec m _ _).2 ds h1
      refine ⟨(last - m - (k : Int)) :: r, by simp [e], by simp [hr], ?_, hH, fun l' hl' hp' hH' => ?_⟩
      · rw [show last - ↑m - (k : Int) + 1 - 1 = last - m - k by omega] at hp
        simp only [planS, hp, Bool.and_true, Bool.and_eq_true, decide_eq_true_eq]; omega
      · cases l' with
        | nil => cases hl'
        | cons n' r' =>
          have hr' : r'.length = m := by simpa using hl'
          obtain ⟨k', hk', e', hp2⟩ := key n' r' hr' hp'
          by_cases hlt : k' < k
          · have h3 := h2 k' hlt
            rw [e'] at h3
            have := (payF_spec m (days ++ [n']) (n' + 1)).1 h3 r' hr' hp2
            rw [show days ++ n' :: r' = days ++ [n'] ++ r' by simp] at hH'
            rw [this] at hH'; cases hH'
          · by_cases heq : k' = k
            · subst heq
              rw [e'] at hb ⊢
              simp only [beforeS, if_true]
              refine hb r' hr' hp2 ?_
              rw [List.append_assoc]; exact hH'
            · simp only [beforeS]
              rw [if_neg (by omega)]
              exact decide_eq_false (by omega)
theorem upF_find {α : Type} {f : Nat → Option α} {x : α} : ∀ {c n : Nat}, upF f c n = some x → ∃ i, n ≤ i ∧ i < n + c ∧ f i = some x ∧ ∀ j, n ≤ j → j < i → f j = none
  | 0, n, h => by cases h
  | c + 1, n, h => by
    simp only [upF] at h
    split at h
    · rename_i y hn
      cases h
      exact ⟨n, by omega, by omega, hn, fun j h1 h2 => by omega⟩
    · rename_i hn
      obtain ⟨i, h1, h2, h3, h4⟩ := upF_find h
      refine ⟨i, by omega, by omega, h3, fun j h5 h6 => ?_⟩
      by_cases e : j = n
      · subst e; exact hn
      · exact h4 j (by omega) h6
theorem pays_best {H : List Int → Bool} {last : Int} (h0 : 0 ≤ last) : Best (fun l => planS last (-1) l && H l) soonerS (upF (fun m => payF H last m [] 0) (last + 2).toNat 0) := by
  cases hu : upF (fun m => payF H last m [] 0) (last + 2).toNat 0 with
  | none =>
    intro l
    cases hp : planS last (-1) l with
    | false => simp [hp]
    | true =>
      have hl := plan_len (show (-1 : Int) ≤ last by omega) hp
      have h1 := upF_none hu l.length (by omega) (by omega)
      have := (payF_spec l.length [] 0).1 h1 l rfl hp
      simpa [hp] using this
  | some b =>
    obtain ⟨i, _, h2, h3, h4⟩ := upF_find hu
    obtain ⟨l, e, hl, hp, hH, hb⟩ := (payF_spec i [] 0).2 b h3
    rw [List.nil_append] at e
    subst e
    have hp : planS last (-1) b = true := hp
    refine ⟨by simp [hp, hH], fun l' hl' => ?_⟩
    simp only [Bool.and_eq_true] at hl'
    cases hs : soonerS l' b with
    | false => rfl
    | true =>
      rw [sooner_iff] at hs
      rcases hs with hs | ⟨hs, g⟩
      · have h1 := h4 l'.length (by omega) (by omega)
        have := (payF_spec l'.length [] 0).1 h1 l' rfl hl'.1
        rw [List.nil_append, hl'.2] at this; cases this
      · have := hb l' (by omega) hl'.1 (by simpa using hl'.2)
        rw [g] at this; cases this
theorem paysL_best {a : Acc} (hf : faultS a = 0) : Best (fun l => planS a.last (-1) l && holdsR a l) soonerS (paysL a) := by
  have h0 : 0 ≤ a.last := by
    have := (fault_zero hf).2.2.1
    simp only [inB, Bool.and_eq_true, decide_eq_true_eq] at this
    omega
  have := pays_best (H := good a) h0
  refine best_of (fun l => ?_) this
  rw [good_eq hf]
end AM.Try
end
/- Plain laws: the search for the smallest set; bits. -/
section
namespace AM.Try
open Go AM AM.Duty
open Nat renaming reduceLT → sA, reduceAdd → sB, reduceMul → sC, reduceSub → sD, reduceLeDiff → sE, reduceEqDiff → sF, reduceBEq → sG
open Int renaming reduceAdd → sH, reduceSub → sI, reduceMul → sJ, reduceLT → sK, reduceLE → sL, reduceNeg → sM, reduceToNat → sN, reduceEq → sO
theorem upI_none {α : Type} {f : Int → Option α} : ∀ {c : Nat} {n : Int}, upI f c n = none → ∀ k : Nat, k < c → f (n + k) = none
  | 0, n, _, k, h => by omega
  | c + 1, n, h, k, hk => by
    simp only [upI] at h
    split at h
    · cases h
    · rename_i hn
      cases k with
      | zero => simpa using hn
      | succ k => rw [show n + ((k + 1 : Nat) : Int) = n + 1 + k by omega]; exact upI_none h k (by omega)
theorem upI_find {α : Type} {f : Int → Option α} {x : α} : ∀ {c : Nat} {n : Int}, upI f c n = some x → ∃ k : Nat, k < c ∧ f (n + k) = some x ∧ ∀ j : Nat, j < k → f (n + j) = none
  | 0, n, h => by cases h
  | c + 1, n, h => by
    simp only [upI] at h
    split at h
    · rename_i y hn
      cases h
      exact ⟨0, by omega, by simpa using hn, fun j hj => by omega⟩
    · rename_i hn
      obtain ⟨k, h1, h2, h3⟩ := upI_find h
      refine ⟨k + 1, by omega, by rw [show n + ((k + 1 : Nat) : Int) = n + 1 + k by omega]; exact h2, fun j hj => ?_⟩
      cases j with
      | zero => simpa using hn
      | succ j => rw [show n + ((j + 1 : Nat) : Int) = n + 1 + j by omega]; exact h3 j (by omega)
theorem leaveF_spec {H : List Int → Bool} {len : Int} : ∀ (m : Nat) (out : List Int) (fr : Int),
    (leaveF H len m out fr = none → ∀ l, l.length = m → planS (len - 1) (fr - 1) l = true → H (out ++ l) = false) ∧
    (∀ ds, leaveF H len m out fr = some ds → ∃ l, ds = out ++ l ∧ l.length = m ∧ planS (len - 1) (fr - 1) l = true ∧ H ds = true ∧ ∀ l', l'.length = m → planS (len - 1) (fr - 1) l' = true → H (out ++ l') = true → beforeS l' l = false)
  | 0, out, fr => by
    simp only [leaveF]
    refine ⟨fun h l hl hp0 => ?_, fun ds h => ?_⟩
    · have : l = [] := List.length_eq_zero_iff.1 hl
      subst this
      by_cases hH : H out = true
      · rw [if_pos hH] at h; cases h
      · simpa using hH
    · split at h
      · rename_i hH; cases h
        exact ⟨[], by simp, rfl, rfl, hH, fun l' hl' _ _ => by rw [List.length_eq_zero_iff.1 hl']; rfl⟩
      · cases h
  | m + 1, out, fr => by
    simp only [leaveF]
    have key : ∀ n r, r.length = m → planS (len - 1) (fr - 1) (n :: r) = true → ∃ k : Nat, k < (len - (m + 1) - fr + 1).toNat ∧ fr + (k : Int) = n ∧ planS (len - 1) (n + 1 - 1) r = true := fun n r hr hp => by
      simp only [planS, Bool.and_eq_true, decide_eq_true_eq] at hp
      have := plan_len hp.2.1 hp.2.2
      exact ⟨(n - fr).toNat, by omega, by omega, by rw [show n + 1 - 1 = n by omega]; exact hp.2.2⟩
    refine ⟨fun h l hl hp => ?_, fun ds h => ?_⟩
    · cases l with
      | nil => cases hl
      | cons n r =>
        have hr : r.length = m := by simpa using hl
        obtain ⟨k, hk, e, hp2⟩ := key n r hr hp
        have h1 := upI_none h k hk
        rw [e] at h1
        have := (leaveF_spec m (out ++ [n]) (n + 1)).1 h1 r hr hp2
        simpa using this
    · obtain ⟨k, hk, h1, h2⟩ := upI_find h
      obtain ⟨r, e, hr, hp, hH, hb⟩ := (leaveF_spec m _ _).2 ds h1
      refine ⟨(fr + (k : Int)) :: r, by simp [e], by simp [hr], ?_, hH, fun l' hl' hp' hH' => ?_⟩
      · rw [show fr + (k : Int) + 1 - 1 = fr + k by omega] at hp
        simp only [planS, hp, Bool.and_true, Bool.and_eq_true, decide_eq_true_eq]; omega
      · cases l' with
        | nil => cases hl'
        | cons n' r' =>
          have hr' : r'.length = m := by simpa using hl'
          obtain ⟨k', hk', e', hp2⟩ := key n' r' hr' hp'
          by_cases hlt : k' < k
          · have h3 := h2 k' hlt
            rw [e'] at h3
            have := (leaveF_spec m (out ++ [n']) (n' + 1)).1 h3 r' hr' hp2
            rw [show out ++ n' :: r' = out ++ [n'] ++ r' by simp] at hH'
            rw [this] at hH'; cases hH'
          · by_cases heq : k' = k
            · subst heq
              rw [e'] at hb ⊢
              simp only [beforeS, if_true]
              refine hb r' hr' hp2 ?_
              rw [List.append_assoc]; exact hH'
            · simp only [beforeS]
              rw [if_neg (by omega)]
              exact decide_eq_false (by omega)
theorem leave_best {H : List Int → Bool} {len : Nat} : Best (fun l => planS ((len : Int) - 1) (-1) l && H l) shorterS (upF (fun m => leaveF H len m [] 0) (len + 1) 0) := by
  cases hu : upF (fun m => leaveF H len m [] 0) (len + 1) 0 with
  | none =>
    intro l
    cases hp : planS ((len : Int) - 1) (-1) l with
    | false => simp [hp]
    | true =>
      have hl := plan_len (show (-1 : Int) ≤ (len : Int) - 1 by omega) hp
      have h1 := upF_none hu l.length (by omega) (by omega)
      have := (leaveF_spec l.length [] 0).1 h1 l rfl hp
      simpa [hp] using this
  | some b =>
    obtain ⟨i, _, h2, h3, h4⟩ := upF_find hu
    obtain ⟨l, e, hl, hp, hH, hb⟩ := (leaveF_spec i [] 0).2 b h3
    rw [List.nil_append] at e
    subst e
    have hp : planS ((len : Int) - 1) (-1) b = true := hp
    refine ⟨by simp [hp, hH], fun l' hl' => ?_⟩
    simp only [Bool.and_eq_true] at hl'
    cases hs : shorterS l' b with
    | false => rfl
    | true =>
      rw [shorter_iff] at hs
      rcases hs with hs | ⟨hs, g⟩
      · have h1 := h4 l'.length (by omega) (by omega)
        have := (leaveF_spec l'.length [] 0).1 h1 l' rfl hl'.1
        rw [List.nil_append, hl'.2] at this; cases this
      · have := hb l' (by omega) hl'.1 (by simpa using hl'.2)
        rw [g] at this; cases this
def bitsF : Nat → Nat → Nat → List Int
  | 0, _, _ => []
  | c + 1, p, n => if n % 2 = 1 then (p : Int) :: bitsF c (p + 1) (n / 2) else bitsF c (p + 1) (n / 2)
def bitsS (n : Nat) : List Int := bitsF 16 0 n
theorem bitsF_zero : ∀ c p, bitsF c p 0 = []
  | 0, _ => rfl
  | c + 1, p => by simp only [bitsF]; rw [if_neg (by decide)]; exact bitsF_zero c (p + 1)
theorem plan_low {last : Int} : ∀ {l : List Int} {p q : Int}, q ≤ p → planS last p l = true → planS last q l = true
  | [], _, _, _, _ => rfl
  | n :: r, p, q, h, hp => by
    simp only [planS, Bool.and_eq_true, decide_eq_true_eq] at hp ⊢
    exact ⟨by omega, hp.2⟩
theorem bitsF_plan : ∀ {c p k n : Nat}, n < 2 ^ k → planS ((p : Int) + k - 1) ((p : Int) - 1) (bitsF c p n) = true
  | 0, _, _, _, _ => rfl
  | c + 1, p, 0, n, h => by
    have : n = 0 := by simpa using h
    subst this; rw [bitsF_zero]; rfl
  | c + 1, p, k + 1, n, h => by
    have h1 : n / 2 < 2 ^ k := by rw [Nat.pow_succ] at h; omega
    have ih := bitsF_plan (c := c) (p := p + 1) h1
    rw [show ((p + 1 : Nat) : Int) + k - 1 = (p : Int) + (k + 1 : Nat) - 1 by omega, show ((p + 1 : Nat) : Int) - 1 = p by omega] at ih
    simp only [bitsF]
    split
    · simp only [planS, ih, Bool.and_true, Bool.and_eq_true, decide_eq_true_eq]; omega
    · exact plan_low (by omega) ih
theorem bitsF_find : ∀ {k c p : Nat} {l : List Int}, k ≤ c → planS ((p : Int) + k - 1) ((p : Int) - 1) l = true → ∃ n, n < 2 ^ k ∧ bitsF c p n = l
  | k, c, p, [], _, _ => ⟨0, Nat.pow_pos (by decide), bitsF_zero c p⟩
  | 0, c, p, x :: r, _, h => by simp only [planS, Bool.and_eq_true, decide_eq_true_eq] at h; omega
  | k + 1, 0, p, x :: r, hc, _ => by omega
  | k + 1, c + 1, p, x :: r, hc, h => by
    have e1 : (p : Int) + (k + 1 : Nat) - 1 = ((p + 1 : Nat) : Int) + k - 1 := by omega
    have e2 : ((p + 1 : Nat) : Int) - 1 = p := by omega
    have h0 := h
    simp only [planS, Bool.and_eq_true, decide_eq_true_eq] at h0
    by_cases hx : x = p
    · obtain ⟨n, hn, hb⟩ := bitsF_find (k := k) (c := c) (p := p + 1) (l := r) (by omega) (by rw [← e1, e2]; rw [hx] at h0; exact h0.2.2)
      refine ⟨2 * n + 1, by rw [Nat.pow_succ]; omega, ?_⟩
      simp only [bitsF]
      rw [if_pos (by omega), show (2 * n + 1) / 2 = n by omega, hb, hx]
    · obtain ⟨n, hn, hb⟩ := bitsF_find (k := k) (c := c) (p := p + 1) (l := x :: r) (by omega) (by
        rw [← e1, e2]
        simp only [planS, h0.2.2, Bool.and_true, Bool.and_eq_true, decide_eq_true_eq]; omega)
      refine ⟨2 * n, by rw [Nat.pow_succ]; omega, ?_⟩
      simp only [bitsF]
      rw [if_neg (by omega), show 2 * n / 2 = n by omega, hb]
theorem bits_mem {k : Nat} {l : List Int} (hk : k ≤ 16) : l ∈ (List.range (2 ^ k)).map bitsS ↔ planS ((k : Int) - 1) (-1) l = true := by
  rw [List.mem_map]
  have e1 : ((0 : Nat) : Int) + k - 1 = (k : Int) - 1 := by omega
  constructor
  · rintro ⟨n, hn, rfl⟩
    have := bitsF_plan (c := 16) (p := 0) (List.mem_range.1 hn)
    rw [e1] at this; exact this
  · intro h
    obtain ⟨n, hn, hb⟩ := bitsF_find (c := 16) (p := 0) (l := l) hk (by rw [e1]; exact h)
    exact ⟨n, List.mem_range.2 hn, hb⟩
theorem bitsF_len : ∀ c p n, (bitsF c p n).length ≤ c
  | 0, _, _ => by simp [bitsF]
  | c + 1, p, n => by
    have := bitsF_len c (p + 1) (n / 2)
    simp only [bitsF]; split
    · simp; omega
    · omega
theorem bits_len (n : Nat) : (bitsS n).length ≤ 16 := bitsF_len _ _ _
def paysTo (a : Acc) (k : Nat) : Option (List Int) := ((List.range k).map bitsS).foldl (bestStep (holdsR a) soonerS) none
def paysR (a : Acc) : Option (List Int) := paysTo a (2 ^ (a.last + 1).toNat)
theorem paysTo_succ (a : Acc) (k : Nat) : paysTo a (k + 1) = bestStep (holdsR a) soonerS (paysTo a k) (bitsS k) := by
  simp only [paysTo, List.range_succ, List.map_append, List.foldl_append, List.map_cons, List.map_nil, List.foldl_cons, List.foldl_nil]
theorem before_irr : ∀ a : List Int, beforeS a a = false
  | [] => rfl
  | x :: a => by simp only [beforeS, if_true]; exact before_irr a
theorem sooner_irr (a : List Int) : soonerS a a = false := by simp [soonerS, before_irr]
theorem shorter_irr (a : List Int) : shorterS a a = false := by simp [shorterS, before_irr]
theorem last_in' {a : Acc} (hf : faultS a = 0) : 0 ≤ a.last ∧ a.last ≤ 11 := by
  have := (fault_zero hf).2.2.1
  simp only [inB, Bool.and_eq_true, decide_eq_true_eq] at this
  omega
theorem pays_eq {a : Acc} (hf : faultS a = 0) : paysL a = paysR a := by
  refine best_unique sooner_total (paysL_best hf) ?_
  have h := best_fold (H := holdsR a) (lt := soonerS) (fun _ _ _ => sooner_trans) sooner_irr ((List.range (2 ^ (a.last + 1).toNat)).map bitsS) [] none (fun l => by simp)
  refine best_of (fun l => ?_) h
  have hl := last_in' hf
  have hm := bits_mem (k := (a.last + 1).toNat) (l := l) (by omega)
  rw [show ((a.last + 1).toNat : Int) - 1 = a.last by omega] at hm
  rw [List.nil_append]
  congr 1
  rw [Bool.eq_iff_iff, decide_eq_true_iff, hm]
def woR : Nat → List Entry → List Entry
  | _, [] => []
  | n, e :: es => if n % 2 = 0 then e :: woR (n / 2) es else woR (n / 2) es
def withoutR (a : Acc) (n : Nat) : Acc := { a with entries := woR n a.entries }
theorem woF_congr {o o' : List Int} : ∀ {es : List Entry} {j : Nat}, (∀ i : Nat, j ≤ i → ((i : Int) ∈ o ↔ (i : Int) ∈ o')) → woF o j es = woF o' j es
  | [], j, _ => rfl
  | e :: es, j, h => by
    simp only [woF]
    have h1 := h j (Nat.le_refl _)
    have h2 := woF_congr (es := es) (j := j + 1) fun i hi => h i (by omega)
    by_cases hm : (j : Int) ∈ o
    · rw [if_pos hm, if_pos (h1.1 hm), h2]
    · rw [if_neg hm, if_neg (fun x => hm (h1.2 x)), h2]
theorem bitsF_low : ∀ {c p n : Nat} {x : Int}, x ∈ bitsF c p n → (p : Int) ≤ x
  | 0, _, _, _, h => by cases h
  | c + 1, p, n, x, h => by
    simp only [bitsF] at h
    split at h
    · rcases List.mem_cons.1 h with rfl | h
      · omega
      · have := bitsF_low h; omega
    · have := bitsF_low h; omega
theorem wo_bits : ∀ {es : List Entry} {c p n : Nat}, es.length ≤ c → woF (bitsF c p n) p es = woR n es
  | [], _, _, _, _ => rfl
  | e :: es, 0, p, n, h => by simp at h
  | e :: es, c + 1, p, n, h => by
    have ih := wo_bits (es := es) (c := c) (p := p + 1) (n := n / 2) (by simpa using h)
    simp only [woF, woR]
    by_cases hn : n % 2 = 1
    · have hb : bitsF (c + 1) p n = (p : Int) :: bitsF c (p + 1) (n / 2) := by simp only [bitsF]; rw [if_pos hn]
      rw [hb, if_pos (by simp), if_neg (by omega), ← ih]
      refine woF_congr fun i hi => ?_
      rw [List.mem_cons]
      exact ⟨fun h => h.resolve_left (by omega), .inr⟩
    · have hb : bitsF (c + 1) p n = bitsF c (p + 1) (n / 2) := by simp only [bitsF]; rw [if_neg hn]
      have hnm : ¬ (p : Int) ∈ bitsF c (p + 1) (n / 2) := fun h => by have := bitsF_low h; omega
      rw [hb, if_neg hnm, if_pos (by omega), ← ih]
theorem without_eq {a : Acc} (hl : a.entries.length ≤ 16) (n : Nat) : withoutP a (bitsS n) = withoutR a n := by
  unfold withoutP withoutR bitsS
  rw [wo_bits hl]
theorem wo_all : ∀ (es : List Entry), woR (2 ^ es.length - 1) es = []
  | [] => rfl
  | e :: es => by
    have h1 : 2 ^ (es.length + 1) = 2 * 2 ^ es.length := by rw [Nat.pow_succ, Nat.mul_comm]
    have h2 : 0 < 2 ^ es.length := Nat.pow_pos (by decide)
    simp only [woR, List.length_cons, h1]
    rw [if_neg (by omega), show (2 * 2 ^ es.length - 1) / 2 = 2 ^ es.length - 1 by omega]
    exact wo_all es
def leaves1 (a : Acc) (out : List Int) : Bool := possibleS (withoutP a out)
theorem leaves_eq {a : Acc} (hf : faultS a = 0) (out : List Int) : goodL a out = leaves1 a out := by
  unfold goodL leaves1
  rw [possible_eq, truths_empty (fault_wo hf out)]
theorem leaves_all {a : Acc} (hf : faultS a = 0) : leaves1 a (bitsS (2 ^ a.entries.length - 1)) = true := by
  rw [← leaves_eq hf]
  have hl : a.entries.length ≤ 8 := (fault_zero hf).2.1
  have h : (withoutP a (bitsS (2 ^ a.entries.length - 1))).entries = [] := by
    rw [without_eq (by omega)]; exact wo_all _
  unfold goodL truthsL
  rw [h]
  have h2 : (playS (withoutP a (bitsS (2 ^ a.entries.length - 1))) [] [] true).2 = true := play_none h _ _ _
  simp only [listsP, List.filter_cons, h2, if_true, List.filter_nil, List.isEmpty_cons, Bool.not_false]
def leaveTo (a : Acc) (k : Nat) : Option (List Int) := ((List.range k).map bitsS).foldl (bestStep (leaves1 a) shorterS) (some (bitsS (2 ^ a.entries.length - 1)))
theorem leaveTo_succ (a : Acc) (k : Nat) : leaveTo a (k + 1) = bestStep (leaves1 a) shorterS (leaveTo a k) (bitsS k) := by
  simp only [leaveTo, List.range_succ, List.map_append, List.foldl_append, List.map_cons, List.map_nil, List.foldl_cons, List.foldl_nil]
def leaveR (a : Acc) : Option (List Int) := leaveTo a (2 ^ a.entries.length)
theorem leaveL_best {a : Acc} (hf : faultS a = 0) : Best (fun l => planS ((a.entries.length : Int) - 1) (-1) l && leaves1 a l) shorterS (leaveL a) := by
  have h := leave_best (H := goodL a) (len := a.entries.length)
  exact best_of (fun l => by rw [leaves_eq hf]) h
theorem leave_eq {a : Acc} (hf : faultS a = 0) : leaveL a = leaveR a := by
  refine best_unique shorter_total (leaveL_best hf) ?_
  have hl : a.entries.length ≤ 8 := (fault_zero hf).2.1
  have h := best_fold (H := leaves1 a) (lt := shorterS) (fun _ _ _ => shorter_trans) shorter_irr ((List.range (2 ^ a.entries.length)).map bitsS) [bitsS (2 ^ a.entries.length - 1)] (some (bitsS (2 ^ a.entries.length - 1))) ⟨by simp [leaves_all hf], fun l hl => by
    simp only [Bool.and_eq_true, decide_eq_true_eq, List.mem_singleton] at hl
    rw [hl.1]; exact shorter_irr _⟩
  refine best_of (fun l => ?_) h
  have hm := bits_mem (k := a.entries.length) (l := l) (by omega)
  congr 1
  rw [Bool.eq_iff_iff, decide_eq_true_iff, ← hm, List.mem_append, List.mem_singleton]
  constructor
  · rintro (rfl | h)
    · exact List.mem_map.2 ⟨_, List.mem_range.2 (by have : 0 < 2 ^ a.entries.length := Nat.pow_pos (by decide); omega), rfl⟩
    · exact h
  · exact .inr
end AM.Try
end
/- The reference: bits. -/
section
namespace AM.Try
open Go AM AM.Duty
open Nat renaming reduceLT → sA, reduceAdd → sB, reduceMul → sC, reduceSub → sD, reduceLeDiff → sE, reduceEqDiff → sF, reduceBEq → sG
open Int renaming reduceAdd → sH, reduceSub → sI, reduceMul → sJ, reduceLT → sK, reduceLE → sL, reduceNeg → sM, reduceToNat → sN, reduceEq → sO
set_option maxHeartbeats 8000000
set_option maxRecDepth 100000
theorem wrapU {x : Int} (h1 : 0 ≤ x) (h2 : x < 9223372036854775808) : IntKind.wrap .u64 x = x := by
  simp only [IntKind.wrap, IntKind.signed, IntKind.bits]
  simp; omega
theorem shrN {n p : Nat} (h : p ≤ 16) : ((n : Int).fdiv (2 ^ (min p IntKind.i64.bits)) : Int) = ((n / 2 ^ p : Nat) : Int) := by
  have e : (2 : Int) ^ p = ((2 ^ p : Nat) : Int) := by rw [Int.natCast_pow]; rfl
  rw [Nat.min_eq_left (by simp only [IntKind.bits]; omega), e, Int.fdiv_eq_ediv_of_nonneg _ (Int.natCast_nonneg _), Int.natCast_ediv]
def bitsN (n p : Nat) (acc : List Int) : List Int := if n / 2 ^ p % 2 = 1 then acc ++ [(p : Int)] else acc
theorem bitsN_next {n p : Nat} {acc : List Int} {R : List Int} (hp : p < 16) (hal : acc.length ≤ p) (hr : acc ++ bitsF (16 - p) p (n / 2 ^ p) = R) : p ≤ 15 ∧ (bitsN n p acc).length ≤ p + 1 ∧ bitsN n p acc ++ bitsF (16 - (p + 1)) (p + 1) (n / 2 ^ (p + 1)) = R := by
  rw [show 16 - p = (16 - (p + 1)) + 1 by omega] at hr
  simp only [bitsF] at hr
  rw [Nat.pow_succ, ← Nat.div_div_eq_div_mul]
  unfold bitsN
  split
  · rename_i h; rw [if_pos h] at hr; exact ⟨by omega, by simp; omega, by rw [← hr]; simp⟩
  · rename_i h; rw [if_neg h] at hr; exact ⟨by omega, by omega, hr⟩
theorem bits_pos {n p : Nat} (hn : n < 65536) (hp : p ≤ 16) (h : (0 : Int) < ((n / 2 ^ p : Nat) : Int)) : p < 16 := by
  have h1 : 0 < n / 2 ^ p := by generalize n / 2 ^ p = m at h ⊢; omega
  have h2 : n < 2 ^ 16 := hn
  have : p ≠ 16 := fun e => by subst e; rw [Nat.div_eq_of_lt h2] at h1; omega
  omega
theorem bits_end {n p : Nat} {acc : List Int} (h : ¬ (0 : Int) < ((n / 2 ^ p : Nat) : Int)) (hr : acc ++ bitsF (16 - p) p (n / 2 ^ p) = bitsS n) : acc = bitsS n := by
  have h1 : n / 2 ^ p = 0 := by generalize n / 2 ^ p = m at h; omega
  rw [h1, bitsF_zero, List.append_nil] at hr; exact hr
theorem c55 (n : Nat) (hn : n < 65536) : PCall Go.Proofs.Try.prog 55 [i64 n] (isl (bitsS n)) := by
  refine pcall_mk (v := []) (q := []) (N := 23) (rs := [.tmp 2]) Go.Proofs.Try.func55 rfl rfl rfl rfl rfl ?_
  refine awp_seq_k fun K1 hK1 => ?_
  refine awp_ops ?_
  simp (disch := omega) only [amL, sA]
  refine hK1 _ ?_
  refine awp_seq_k fun K2 hK2 => ?_
  refine awp_ops ?_
  simp (disch := omega) only [amL, sA]
  refine hK2 _ ?_
  refine awp_seq_k fun K3 hK3 => ?_
  refine awp_seq_k fun K4 hK4 => ?_
  refine awp_ops ?_
  simp (disch := omega) only [amL, sA]
  refine hK4 _ ?_
  refine awp_block ?_
  refine awp_adopt' 21 1 3 (by decide) rfl rfl ?_
  refine awp_loop_k (α := Nat × List Int) (fun x => ⟨T [(0, i64 n), (3, .own 21 x.2.length), (4, i64 (x.1 : Int))], O [(21, .arr 1 (x.2.map encI))]⟩) (fun x => 16 - x.1) (fun x => x.1 ≤ 16 ∧ x.2.length ≤ x.1 ∧ x.2 ++ bitsF (16 - x.1) x.1 (n / 2 ^ x.1) = bitsS n) (0, []) ?_ ?_ (fun x hx5 K5 hK5 => ?_)
  · simp [bitsS]
  · refine le_mk ?_ ?_ ?_ ?_ <;> (try simp (disch := omega) only [amL, sF, ↓reduceIte, reduceCtorEq]); all_goals rfl
  obtain ⟨p, acc⟩ := x; obtain ⟨hp, hal, hr⟩ := hx5; dsimp only at hp hal hr ⊢
  refine awp_seq_k fun K6 hK6 => ?_
  refine awp_seq_k fun K7 hK7 => ?_
  refine awp_ops ?_
  simp (disch := omega) only [wrapU, shrN, amL, amT, sA, sF, ↓reduceIte, reduceCtorEq]
  refine hK7 _ ?_
  refine awp_cond rfl (fun h => ?_) (fun h => ?_)
  ·first
   | exact Bool.noConfusion h
   |skip
    try simp only [decide_eq_true_eq] at h
    refine awp_skip ?_
    refine hK6 _ ?_
    refine awp_seq_k fun K8 hK8 => ?_
    refine awp_block ?_
    refine awp_seq_k fun K9 hK9 => ?_
    refine awp_ops ?_
    have hp16 := bits_pos hn hp (by assumption)
    simp (disch := omega) only [wrapU, shrN, amL, amT, sA, sF, sO, ↓reduceIte, reduceCtorEq]
    refine hK9 _ ?_
    refine awp_cond rfl (fun h => ?_) (fun h => ?_)
    ·first
     | exact Bool.noConfusion h
     |skip
      try simp only [decide_eq_true_eq] at h
      refine awp_ops ?_
      simp (disch := omega) only [amL, amT, sA, sE, sF, ↓reduceIte, reduceCtorEq]
      refine hK8 _ ?_
      refine awp_ops ?_
      simp (disch := omega) only [amL, amT, sA, sF, ↓reduceIte, reduceCtorEq]
      refine hK5 (p+1, bitsN n p acc) _ ?_ ?_ (le_mk ?_ ?_ ?_ ?_)
      all_goals (try simp (disch := omega) only [amL, sE, sF, ↓reduceIte, reduceCtorEq])
      all_goals first | omega | exact bitsN_next hp16 hal hr | (rw [bitsN, if_pos (by omega)]; simp; done) | (rw [bitsN, if_neg (by omega)]; done) | (omega)
    ·first
     | exact Bool.noConfusion h
     |skip
      try simp only [decide_eq_false_iff_not] at h
      refine awp_skip ?_
      refine hK8 _ ?_
      refine awp_ops ?_
      simp (disch := omega) only [amL, amT, sA, sF, ↓reduceIte, reduceCtorEq]
      refine hK5 (p+1, bitsN n p acc) _ ?_ ?_ (le_mk ?_ ?_ ?_ ?_)
      all_goals (try simp (disch := omega) only [amL, sE, sF, ↓reduceIte, reduceCtorEq])
      all_goals first | omega | exact bitsN_next hp16 hal hr | (rw [bitsN, if_pos (by omega)]; simp; done) | (rw [bitsN, if_neg (by omega)]; done) | (omega)
  ·first
   | exact Bool.noConfusion h
   |skip
    try simp only [decide_eq_false_iff_not] at h
    refine awp_exit ?_
    refine hK3 _ ?_
    refine awp_seq_k fun K10 hK10 => ?_
    refine awp_ops ?_
    simp (disch := omega) only [amL, sA, sF, ↓reduceIte, reduceCtorEq]
    refine hK10 _ ?_
    refine awp_ret ?_
    try simp (disch := omega) only [amL, ↓reduceIte]
    have e := bits_end h hr
    subst e
    rw [List.take_of_length_le (by simp)]
theorem planS_len {a : Acc} (_ : faultS a = 0) (n : Nat) : (bitsS n).length < 1000000 := by have := bits_len n; omega
theorem encS (l : List (List Int)) : (l.map encL).length = l.length := List.length_map ..
theorem holds_take {a : Acc} {l : List (List Int)} {days : List Int} {k : Nat} (h : k < l.length) : ((l.take (k + 1)).all fun t => keepsS a.bond (debtsS a t days).1) = ((l.take k).all (fun t => keepsS a.bond (debtsS a t days).1) && keepsS a.bond (debtsS a (l.getD k []) days).1) := by
  rw [List.take_add_one, List.all_append]
  have : l[k]? = some (l.getD k []) := by rw [List.getD_eq_getElem?_getD, List.getElem?_eq_getElem h]; rfl
  rw [this]; simp
theorem holds_no {a : Acc} {l : List (List Int)} {days : List Int} {k : Nat} (h : k < l.length) (hk : keepsS a.bond (debtsS a (l.getD k []) days).1 = false) : (l.all fun t => keepsS a.bond (debtsS a t days).1) = false := by
  rw [List.all_eq_false]
  exact ⟨_, getD_mem [] h, by show ¬ keepsS a.bond (debtsS a (l.getD k []) days).1 = true; rw [hk]; decide⟩
theorem c40 (a : Acc) (l : List (List Int)) (days : List Int) (hf : faultS a = 0) (hl : l.length < 1000000) (hd : days.length < 1000000) (hfit : ∀ k, k < l.length → Fit a (l.getD k [])) : PCall Go.Proofs.Try.prog 40 [avA a, .p (.sl (l.map encL)), isl days] (bl (l.all fun t => keepsS a.bond (debtsS a t days).1)) := by
  refine pcall_mk (v := []) (q := []) (N := 30) (rs := [.tmp 6]) Go.Proofs.Try.func40 rfl rfl rfl rfl rfl ?_
  refine awp_seq_k fun K1 hK1 => ?_
  refine awp_ops ?_
  simp (disch := omega) only [amL, sA, sB, ↓reduceIte]
  refine hK1 _ ?_
  refine awp_seq_k fun K2 hK2 => ?_
  refine awp_seq_k fun K3 hK3 => ?_
  refine awp_ops ?_
  simp (disch := omega) only [amL, sA]
  refine hK3 _ ?_
  refine awp_block ?_
  skip
  refine awp_loop_k (α := Nat) (fun k => ⟨T [(1, .p (.sl (l.map encL))), (2, isl days), (3, .ptr 3 0), (7, i64 k)], O [(3, .cells (cA a))]⟩) (fun k => l.length - k) (fun k => k ≤ l.length ∧ ((l.take k).all fun t => keepsS a.bond (debtsS a t days).1) = true) 0 ?_ ?_ (fun k hx4 K4 hK4 => ?_)
  · simp
  · refine le_mk ?_ ?_ ?_ ?_ <;> (try simp (disch := omega) only [amL, sF, ↓reduceIte, reduceCtorEq]); all_goals rfl
  obtain ⟨hk, hn⟩ := hx4
  refine awp_seq_k fun K5 hK5 => ?_
  refine awp_seq_k fun K6 hK6 => ?_
  refine awp_ops ?_
  simp (disch := omega) only [amL, amT, sA, sF, ↓reduceIte]
  refine hK6 _ ?_
  refine awp_cond rfl (fun h => ?_) (fun h => ?_)
  ·first
   | exact Bool.noConfusion h
   |skip
    try simp only [decide_eq_true_eq] at h
    refine awp_skip ?_
    refine hK5 _ ?_
    refine awp_seq_k fun K7 hK7 => ?_
    refine awp_block ?_
    refine awp_seq_k fun K8 hK8 => ?_
    refine awp_any2 (by kernel_rfl) (by kernel_rfl) ?_
    simp (disch := omega) only [encL_getD, amL, amT, sA, sB, sF, ↓reduceIte]
    repeat' first | (refine EC_intro (by kernel_rfl) rfl (c27 a _ days (hfit _ (by omega)) hd) (by first | exact .inl rfl | exact .inr (.inl rfl)) ?_ ; simp (disch := omega) only [amL, sA, sF, ↓reduceIte])
    refine hK8 _ ?_
    refine awp_seq_k fun K9 hK9 => ?_
    refine awp_ops ?_
    simp (disch := omega) only [amL, amT, sA, sB, sF, ↓reduceIte]
    repeat' first | (refine EC_intro (by kernel_rfl) rfl (c74 a _ (debtsS_len hf _ days)) (by first | exact .inl rfl | exact .inr (.inl rfl)) ?_ ; simp (disch := omega) only [amL, ↓reduceIte])
    refine hK9 _ ?_
    refine awp_cond rfl (fun h => ?_) (fun h => ?_)
    ·first
     | exact Bool.noConfusion h
     |skip
      try simp only [Bool.not_eq_true'] at h
      refine awp_seq_k fun K10 hK10 => ?_
      refine awp_ops ?_
      simp (disch := omega) only [amL, sA]
      refine hK10 _ ?_
      refine awp_ret ?_
      try simp (disch := omega) only [amL, ↓reduceIte]
      first | (rw [holds_no (k := k) (by omega) h]; done) | (rw [List.take_of_length_le (by omega)] at hn; rw [hn]; done) | (omega)
    ·first
     | exact Bool.noConfusion h
     |skip
      try simp only [Bool.not_eq_false'] at h
      refine awp_skip ?_
      refine hK7 _ ?_
      refine awp_ops ?_
      simp (disch := omega) only [amL, amT, sA, sF, ↓reduceIte]
      refine hK4 (k+1) _ ?_ ?_ (le_mk ?_ ?_ ?_ ?_)
      all_goals (try simp (disch := omega) only [amL, sF, ↓reduceIte])
      all_goals first | omega | exact ⟨by omega, by rw [holds_take (by omega), hn, h]; rfl⟩ | (omega)
  ·first
   | exact Bool.noConfusion h
   |skip
    try simp only [decide_eq_false_iff_not] at h
    refine awp_exit ?_
    refine hK2 _ ?_
    refine awp_seq_k fun K11 hK11 => ?_
    refine awp_ops ?_
    simp (disch := omega) only [amL, sA]
    refine hK11 _ ?_
    refine awp_ret ?_
    try simp (disch := omega) only [amL, ↓reduceIte]
    first | (rw [holds_no (k := k) (by omega) h]; done) | (rw [List.take_of_length_le (by omega)] at hn; rw [hn]; done) | (omega)
end AM.Try
end
/- The reference: the fewest payments. -/
section
namespace AM.Try
open Go AM AM.Duty
open Nat renaming reduceLT → sA, reduceAdd → sB, reduceMul → sC, reduceSub → sD, reduceLeDiff → sE, reduceEqDiff → sF, reduceBEq → sG
open Int renaming reduceAdd → sH, reduceSub → sI, reduceMul → sJ, reduceLT → sK, reduceLE → sL, reduceNeg → sM, reduceToNat → sN, reduceEq → sO
set_option maxHeartbeats 8000000
set_option maxRecDepth 100000
def optV (r : Option (List Int)) : PV := match r with | none => .val (.slice none 0 0) | some l => .sl (l.map encI)
theorem c40r (a : Acc) (days : List Int) (hf : faultS a = 0) (hd : days.length < 1000000) : PCall Go.Proofs.Try.prog 40 [avA a, .p (.sl ((truthsR a).map encL)), isl days] (bl (holdsR a days)) := c40 a (truthsR a) days hf (lenR hf) hd (fitR hf)
theorem shl1 {n : Nat} (h : n ≤ 16) : ((1 : Int) * 2 ^ (min n IntKind.i64.bits) : Int) = ((2 ^ n : Nat) : Int) := by
  have e : (2 : Int) ^ n = ((2 ^ n : Nat) : Int) := by rw [Int.natCast_pow]; rfl
  rw [Nat.min_eq_left (by simp only [IntKind.bits]; omega), e, Int.one_mul]
theorem pow_le {n : Nat} (h : n ≤ 16) : 2 ^ n ≤ 65536 := Nat.pow_le_pow_right (n := 2) (by decide) h
theorem paysTo_len {a : Acc} : ∀ {k : Nat} {l : List Int}, paysTo a k = some l → l.length ≤ 16
  | 0, l, h => by cases h
  | k + 1, l, h => by
    rw [paysTo_succ] at h
    have hb := bits_len k
    unfold bestStep at h
    split at h
    · split at h
      · cases h; exact hb
      · cases h
    · rename_i c hc
      split at h
      · cases h; exact hb
      · cases h; exact paysTo_len hc
theorem c56o (x : List Int) (r : Option (List Int)) (hx : x.length ≤ 16) (hr : ∀ l, r = some l → l.length ≤ 16) (hs : r.isSome = true) : PCall Go.Proofs.Try.prog 56 [isl x, .p (optV r)] (bl (soonerS x (r.getD []))) := by
  cases r with
  | none => cases hs
  | some l => exact c56 x l (by omega) (by have := hr l rfl; omega)
theorem pays_yes {a : Acc} {k : Nat} (h : holdsR a (bitsS k) = true) (h2 : (paysTo a k).isSome = false ∨ soonerS (bitsS k) ((paysTo a k).getD []) = true) : paysTo a (k + 1) = some (bitsS k) := by
  rw [paysTo_succ]; unfold bestStep
  cases hb : paysTo a k with
  | none => dsimp only; rw [if_pos h]
  | some c =>
    rw [hb] at h2
    dsimp only
    rcases h2 with h2 | h2
    · cases h2
    · rw [if_pos ⟨h2, h⟩]
theorem pays_not {a : Acc} {k : Nat} (h : holdsR a (bitsS k) = false ∨ ((paysTo a k).isSome = true ∧ soonerS (bitsS k) ((paysTo a k).getD []) = false)) : paysTo a (k + 1) = paysTo a k := by
  rw [paysTo_succ]; unfold bestStep
  cases hb : paysTo a k with
  | none =>
    rw [hb] at h
    dsimp only
    rcases h with h | h
    · rw [if_neg (by simp [h])]
    · cases h.1
  | some c =>
    rw [hb] at h
    dsimp only
    rcases h with h | h
    · rw [if_neg (by simp [h])]
    · rw [if_neg (fun x => by have h1 := h.2; rw [Option.getD_some, x.1] at h1; cases h1)]
theorem c41 (a : Acc) (hf : faultS a = 0) : PCall Go.Proofs.Try.prog 41 [avA a, .p (.sl ((truthsR a).map encL))] (.tup [.p (optV (paysR a)), bl (paysR a).isSome]) := by
  refine pcall_mk (v := []) (q := []) (N := 37) (rs := [.tmp 4, .tmp 5]) Go.Proofs.Try.func41 rfl rfl rfl rfl rfl ?_
  have hla := last_in' hf
  have hm : ((a.last + 1).toNat : Int) = a.last + 1 := Int.toNat_of_nonneg (by omega)
  generalize hN : (a.last + 1).toNat = N at hm
  have hsh := shl1 (n := N) (by omega)
  have hpo := pow_le (n := N) (by omega)
  have hpa : paysR a = paysTo a (2 ^ N) := by unfold paysR; rw [hN]
  refine awp_seq_k fun K1 hK1 => ?_
  refine awp_ops ?_
  simp (disch := omega) only [amL, sA, sB, ↓reduceIte]
  refine hK1 _ ?_
  refine awp_seq_k fun K2 hK2 => ?_
  refine awp_ops ?_
  simp (disch := omega) only [amL, sA]
  refine hK2 _ ?_
  refine awp_seq_k fun K3 hK3 => ?_
  refine awp_ops ?_
  simp (disch := omega) only [amL, sA]
  refine hK3 _ ?_
  refine awp_seq_k fun K4 hK4 => ?_
  refine awp_seq_k fun K5 hK5 => ?_
  refine awp_ops ?_
  simp (disch := omega) only [amL, sA]
  refine hK5 _ ?_
  refine awp_block ?_
  skip
  refine awp_loop_k (α := Nat) (fun k => ⟨T [(1, .p (.sl ((truthsR a).map encL))), (2, .ptr 2 0), (6, .p (optV (paysTo a k))), (7, bl (paysTo a k).isSome), (8, i64 (k : Int))], O [(2, .cells (cA a))]⟩) (fun k => 2 ^ N - k) (fun k => k ≤ 2 ^ N) 0 ?_ ?_ (fun k hx6 K6 hK6 => ?_)
  · simp
  · refine le_mk ?_ ?_ ?_ ?_ <;> (try simp (disch := omega) only [amL, sF, ↓reduceIte, reduceCtorEq]); all_goals first | rfl | exact ⟨rfl, rfl⟩
  have hk := hx6
  refine awp_seq_k fun K7 hK7 => ?_
  refine awp_seq_k fun K8 hK8 => ?_
  refine awp_ops ?_
  simp (disch := omega) only [wrapU, ← hm, hsh, Int.toNat_natCast, amL, amT, sA, sF, ↓reduceIte, reduceCtorEq]
  refine hK8 _ ?_
  refine awp_cond rfl (fun h => ?_) (fun h => ?_)
  ·first
   | exact Bool.noConfusion h
   |skip
    try simp only [decide_eq_true_eq] at h
    refine awp_skip ?_
    refine hK7 _ ?_
    refine awp_seq_k fun K9 hK9 => ?_
    refine awp_block ?_
    refine awp_seq_k fun K10 hK10 => ?_
    refine awp_ops ?_
    simp (disch := omega) only [amL, sA, sF, ↓reduceIte]
    repeat' first | (refine EC_intro (by kernel_rfl) rfl (c55 k (by omega)) (by first | exact .inl rfl | exact .inr (.inl rfl)) ?_ ; simp (disch := omega) only [amL, sA, ↓reduceIte])
    refine hK10 _ ?_
    refine awp_seq_k fun K11 hK11 => ?_
    refine awp_ops ?_
    simp (disch := omega) only [amL, sA, sF, ↓reduceIte]
    repeat' first | (refine EG_dec (fun h => ?_) (fun h => ?_) <;> simp (disch := omega) only [h, wrapU, ← hm, hsh, Int.toNat_natCast, amL, amT, sA, sB, sC, sD, sE, sF, sG, sH, sI, sJ, sK, sL, sM, sN, sO, ↓reduceIte, reduceCtorEq]) | (refine EG_cases (fun h => ?_) (fun h => ?_) <;> simp (disch := omega) only [h, amL, amT, sA, sB, sF, ↓reduceIte]) | (refine EC_intro (by kernel_rfl) rfl (c56o (bitsS k) (paysTo a k) (bits_len k) (fun _ => paysTo_len) (by simp_all)) (by first | exact .inl rfl | exact .inr (.inl rfl)) ?_ ; simp (disch := omega) only [amL, sA, sF, ↓reduceIte]) | (refine EC_intro (by kernel_rfl) rfl (c40r a (bitsS k) hf (planS_len hf k)) (by first | exact .inl rfl | exact .inr (.inl rfl)) ?_ ; simp (disch := omega) only [amL, sA, sF, ↓reduceIte])
    all_goals
     skip
     refine hK11 _ ?_
     refine awp_cond rfl (fun h => ?_) (fun h => ?_)
     ·first
      | exact Bool.noConfusion h
      |skip
       try simp only [Bool.not_eq_true', decide_eq_true_eq, decide_eq_false_iff_not, Bool.and_eq_true, Bool.not_eq_false', Bool.not_not, decide_not, Bool.not_true, Bool.not_false] at h
       refine awp_ops ?_
       simp (disch := omega) only [amL, sA, sF, ↓reduceIte]
       refine hK9 _ ?_
       refine awp_ops ?_
       simp (disch := omega) only [amL, amT, sA, sF, ↓reduceIte]
       refine hK6 (k+1) _ ?_ ?_ (le_mk ?_ ?_ ?_ ?_)
       all_goals (try simp (disch := omega) only [amL, sF, ↓reduceIte])
       all_goals first | omega | (rw [pays_yes (by assumption) (by simp_all)]; exact ⟨rfl, rfl⟩) | (rw [pays_not (by simp_all)]; done) | (rw [pays_not (by simp_all)]; exact ⟨rfl, rfl⟩) | (omega)
     ·first
      | exact Bool.noConfusion h
      |skip
       try simp only [] at h
       refine awp_skip ?_
       refine hK9 _ ?_
       refine awp_ops ?_
       simp (disch := omega) only [amL, amT, sA, sF, ↓reduceIte]
       refine hK6 (k+1) _ ?_ ?_ (le_mk ?_ ?_ ?_ ?_)
       all_goals (try simp (disch := omega) only [amL, sF, ↓reduceIte])
       all_goals first | omega | (rw [pays_yes (by assumption) (by simp_all)]; exact ⟨rfl, rfl⟩) | (rw [pays_not (by simp_all)]; done) | (rw [pays_not (by simp_all)]; exact ⟨rfl, rfl⟩) | (omega)
  ·first
   | exact Bool.noConfusion h
   |skip
    try simp only [decide_eq_false_iff_not] at h
    refine awp_exit ?_
    refine hK4 _ ?_
    refine awp_seq_k fun K12 hK12 => ?_
    refine awp_ops ?_
    simp (disch := omega) only [amL, sA, sF, ↓reduceIte]
    refine hK12 _ ?_
    refine awp_ret ?_
    try simp (disch := omega) only [amL, sF, ↓reduceIte]
    rw [hpa, show k = 2 ^ N by omega]
end AM.Try
end
/- The law of payments. -/
section
namespace AM.Try
open Go AM AM.Duty
open Nat renaming reduceLT → sA, reduceAdd → sB, reduceMul → sC, reduceSub → sD, reduceLeDiff → sE, reduceEqDiff → sF, reduceBEq → sG
open Int renaming reduceAdd → sH, reduceSub → sI, reduceMul → sJ, reduceLT → sK, reduceLE → sL, reduceNeg → sM, reduceToNat → sN, reduceEq → sO
set_option maxHeartbeats 8000000
set_option maxRecDepth 100000
theorem plan_all {last : Int} (hla : last ≤ 11) : ∀ {l : List Int} {s : Int}, -1 ≤ s → s ≤ 11 → (allS (stepDay last) s l).2 = planS last s l
  | [], _, _, _ => rfl
  | n :: r, s, h0, h1 => by
    have hw : IntKind.wrap .i64 (s + 1) = s + 1 := wrap64 (by omega) (by omega)
    simp only [allS, stepDay, hw, planS, inB]
    by_cases e1 : s < n
    · by_cases e2 : n ≤ last
      · have ih := plan_all hla (l := r) (s := n) (by omega) (by omega)
        rw [decide_eq_true (show s + 1 ≤ n by omega), decide_eq_true e2, decide_eq_true e1]
        simp only [Bool.and_self, if_true, Bool.true_and]
        exact ih
      · rw [decide_eq_false e2]; simp
    · rw [decide_eq_false (show ¬ s + 1 ≤ n by omega), decide_eq_false e1]; simp
theorem pr9 (a : Acc) (days : List Int) (most : Int) : provesA a days most = (decide (faultS a = 0) && (decide ((days.length : Int) ≤ most) && (planS a.last (-1) days && (!(truthsR a).isEmpty && holdsR a days)))) := by
  unfold provesA
  by_cases hf : faultS a = 0
  · have hla := last_in' hf
    have hg : (truthsL a).reverse.all (holds1 a days) = holdsR a days := good_eq hf days
    rw [plan_all (by omega) (by omega) (by omega), truths_empty hf, hg]
    split
    · rename_i h; rw [decide_eq_true h.1, decide_eq_true h.2.1, h.2.2]; rfl
    · rename_i h
      rw [decide_eq_true hf]
      cases hp : planS a.last (-1) days
      · simp
      · rw [decide_eq_false (fun x => h ⟨hf, x, hp⟩)]; rfl
  · rw [if_neg (fun x => hf x.1), decide_eq_false hf]; rfl
def dsV (ds : List Int) : PV := if ds.isEmpty then .val (.slice none 0 0) else .sl (ds.map encI)
theorem dsV_p (ds : List Int) : (if ds.isEmpty = true then .p (.val (.slice none 0 0)) else isl ds) = AV.p (dsV ds) := by cases ds <;> rfl
theorem pA9 (a : Acc) : paysA a = if faultS a = 0 then if (truthsR a).isEmpty = true then .tup [.p (.val (.slice none 0 0)), i64 9] else match paysR a with
    | none => .tup [.p (.val (.slice none 0 0)), i64 10]
    | some ds => .tup [.p (dsV ds), i64 0]
  else .tup [.p (.val (.slice none 0 0)), i64 (faultS a)] := by
  unfold paysA
  by_cases hf : faultS a = 0
  · rw [if_pos hf, if_pos hf, truths_empty hf, pays_eq hf]
    simp only [dsV_p]
    rfl
  · rw [if_neg hf, if_neg hf]
theorem optV_some (l : List Int) : optV (some l) = .sl (l.map encI) := rfl
theorem optV_none : optV none = .val (.slice none 0 0) := rfl
theorem c28d (ds : List Int) (h : ds.length < 1000000) : PCall Go.Proofs.Try.prog 28 [.p (dsV ds), isl ds] (bl true) := by
  have h2 := c28s ds h
  cases ds with
  | nil => exact PCall.of_nil 0 rfl h2
  | cons x l => exact h2
theorem paysR_len {a : Acc} {ds : List Int} (h : paysR a = some ds) : ds.length ≤ 16 := paysTo_len h
theorem c5 (a : Acc) (days : List Int) (most : Int) (hin : AccIn a) : PCall Go.Proofs.Try.prog 5 [avA a, isl days, i64 most] (bl true) := by
  refine pcall_mk (v := []) (q := []) (N := 111) (rs := [.tmp 6]) Go.Proofs.Try.func5 rfl rfl rfl rfl rfl ?_
  have pA := pA9 a
  have pr := pr9 a days most
  have sE := sA4 a
  have hin' := in_of hin
  by_cases hd : days.length ≤ 15 <;> cases hw : fewS a 30 <;> by_cases hf : faultS a = 0 <;> cases hp : (truthsR a).isEmpty <;> cases hr : paysR a
  all_goals
    try (have ht : thinS a = true := by
          unfold fewS at hw
          simp only [Bool.and_eq_true] at hw
          exact hw.1
         obtain ⟨hl1, hl2⟩ := thin_len ht)
    try (have hla := last_in' hf)
    try (have hrl := paysR_len hr)
  all_goals
    refine awp_seq_k fun K1 hK1 => ?_
    refine awp_ops ?_
    simp (disch := omega) only [amL, sA, sB, ↓reduceIte]
    refine hK1 _ ?_
    refine awp_seq_k fun K2 hK2 => ?_
    refine awp_seq_k fun K3 hK3 => ?_
    refine awp_ops ?_
    simp (disch := omega) only [amL, amT, sA, sB, sF, ↓reduceIte]
    repeat' first | (refine EG_dec (fun h => ?_) (fun h => ?_) <;> simp (disch := omega) only [h, amL, amT, sA, sF, ↓reduceIte, reduceCtorEq]) | (refine EG_cases (fun h => ?_) (fun h => ?_) <;> simp (disch := omega) only [h, pA, pr, sE, hw, hf, hp, hr, optV_some, optV_none, ne_eq, amL, amT, sA, sB, sC, sD, sE, sF, sG, sH, sI, sJ, sK, sL, sM, sN, sO, ↓reduceIte, reduceCtorEq]) | (refine EC_intro (by kernel_rfl) rfl (c29 a 30) (by first | exact .inl rfl | exact .inr (.inl rfl)) ?_ ; simp (disch := omega) only [hw, amL, amT, sA, sB, sF, ↓reduceIte]) | (refine EC_intro (by kernel_rfl) rfl (c24 a (by omega) (by omega)) (by first | exact .inl rfl | exact .inr (.inl rfl)) ?_ ; simp (disch := omega) only [hf, amL, amT, sA, sF, ↓reduceIte, reduceCtorEq])
    all_goals
     skip
     refine hK3 _ ?_
     refine awp_cond rfl (fun h => ?_) (fun h => ?_)
     ·first
      | exact Bool.noConfusion h
      |skip
       try simp only [decide_eq_true_eq] at h
       refine awp_seq_k fun K4 hK4 => ?_
       refine awp_ops ?_
       simp (disch := omega) only [amL]
       repeat' first | (refine EC_intro (by kernel_rfl) rfl (c20) (by first | exact .inl rfl | exact .inr (.inl rfl)) ?_ ; simp (disch := omega) only [amL, sA, ↓reduceIte])
       refine hK4 _ ?_
       refine awp_ret ?_
       try simp (disch := omega) only [amL, ↓reduceIte]
       all_goals first | rfl | (rw [bne_self_eq_false] at h; cases h) | (omega)
     ·first
      | exact Bool.noConfusion h
      |skip
       try simp only [decide_eq_false_iff_not] at h
       refine awp_skip ?_
       refine hK2 _ ?_
       refine awp_seq_k fun K5 hK5 => ?_
       refine awp_ops ?_
       simp (disch := omega) only [amL, amT, sA, sB, sF, ↓reduceIte]
       repeat' first | (refine EC_intro (by kernel_rfl) rfl (c22 a (by omega) (by omega)) (by first | exact .inl rfl | exact .inr (.inl rfl)) ?_ ; simp (disch := omega) only [amL, ↓reduceIte]) | (refine EC_intro (by kernel_rfl) rfl (c37 a (by omega) (by omega) hin') (by first | exact .inl rfl | exact .inr (.inl rfl)) ?_ ; simp (disch := omega) only [pA, hf, hp, hr, amL, sA, sF, ↓reduceIte])
       refine hK5 _ ?_
       refine awp_seq_k fun K6 hK6 => ?_
       refine awp_ops ?_
       simp (disch := omega) only [amL, amT, sA, sB, sF, ↓reduceIte]
       repeat' first | (refine EC_intro (by kernel_rfl) rfl (c22 a (by omega) (by omega)) (by first | exact .inl rfl | exact .inr (.inl rfl)) ?_ ; simp (disch := omega) only [amL, sA, sF, ↓reduceIte, reduceCtorEq]) | (refine EC_intro (by kernel_rfl) rfl (c23 days (by omega)) (by first | exact .inl rfl | exact .inr (.inl rfl)) ?_ ; simp (disch := omega) only [amL, sA, sF, ↓reduceIte, reduceCtorEq]) | (refine EC_intro (by kernel_rfl) rfl (c38 a days most (by omega) (by omega) hin' (by omega)) (by first | exact .inl rfl | exact .inr (.inl rfl)) ?_ ; simp (disch := omega) only [pr, hf, hp, amL, sA, sM, ↓reduceIte])
       refine hK6 _ ?_
       refine awp_seq_k fun K7 hK7 => ?_
       refine awp_ops ?_
       simp (disch := omega) only [amL, amT, sA, sB, sF, sM, ↓reduceIte]
       repeat' first | (refine EC_intro (by kernel_rfl) rfl (c32 a (by omega) (by omega)) (by first | exact .inl rfl | exact .inr (.inl rfl)) ?_ ; simp (disch := omega) only [hf, hp, amL, sA, sE, sM, ↓reduceIte])
       refine hK7 _ ?_
       refine awp_seq_k fun K8 hK8 => ?_
       refine awp_seq_k fun K9 hK9 => ?_
       refine awp_ops ?_
       simp (disch := omega) only [hf, ne_eq, amL, amT, sA, sM, sO, ↓reduceIte]
       refine hK9 _ ?_
       refine awp_cond rfl (fun h => ?_) (fun h => ?_)
       ·first
        | exact Bool.noConfusion h
        |skip
         try simp only [] at h
         refine awp_seq_k fun K10 hK10 => ?_
         refine awp_ops ?_
         simp (disch := omega) only [amL, amT, sA, sF, ↓reduceIte]
         repeat' first | (refine EG_dec (fun h => ?_) (fun h => ?_) <;> simp (disch := omega) only [h, pA, pr, sE, hw, hf, hp, hr, optV_some, optV_none, ne_eq, amL, amT, sA, sB, sC, sD, sE, sF, sG, sH, sI, sJ, sK, sL, sM, sN, sO, ↓reduceIte, reduceCtorEq]) | (refine EG_cases (fun h => ?_) (fun h => ?_) <;> simp (disch := omega) only [h, pA, pr, sE, hw, hf, hp, hr, optV_some, optV_none, ne_eq, amL, amT, sA, sB, sC, sD, sE, sF, sG, sH, sI, sJ, sK, sL, sM, sN, sO, ↓reduceIte, reduceCtorEq]) | (refine EC_intro (by kernel_rfl) rfl (c20) (by first | exact .inl rfl | exact .inr (.inl rfl)) ?_ ; simp (disch := omega) only [amL, sA, sF, ↓reduceIte])
         all_goals
          skip
          refine hK10 _ ?_
          refine awp_ret ?_
          try simp (disch := omega) only [amL, ↓reduceIte]
          all_goals first | rfl | (rw [bne_self_eq_false] at h; cases h) | (omega)
       ·first
        | exact Bool.noConfusion h
        |skip
         try simp only [] at h
         refine awp_skip ?_
         refine hK8 _ ?_
         refine awp_seq_k fun K11 hK11 => ?_
         refine awp_ops ?_
         simp (disch := omega) only [amL, amT, sA, sB, sF, sM, ↓reduceIte]
         repeat' first | (refine EC_intro (by kernel_rfl) rfl (c33 a hf) (by first | exact .inl rfl | exact .inr (.inl rfl)) ?_ ; simp (disch := omega) only [amL, sA, sM, ↓reduceIte])
         refine hK11 _ ?_
         refine awp_seq_k fun K12 hK12 => ?_
         refine awp_seq_k fun K13 hK13 => ?_
         refine awp_ops ?_
         simp (disch := omega) only [amL, amT, sA, sB, sF, sM, ↓reduceIte, reduceCtorEq]
         repeat' first | (refine EG_dec (fun h => ?_) (fun h => ?_) <;> simp (disch := omega) only [h, amL, amT, sA, sB, sF, ↓reduceIte, reduceCtorEq]) | (refine EG_cases (fun h => ?_) (fun h => ?_) <;> simp (disch := omega) only [h, amL, amT, sA, sF, sM, ↓reduceIte, reduceCtorEq]) | (refine EC_intro (by kernel_rfl) rfl (c39 a days (by omega)) (by first | exact .inl rfl | exact .inr (.inl rfl)) ?_ ; simp (disch := omega) only [amL, sA, sM, ↓reduceIte]) | (refine EC_intro (by kernel_rfl) rfl (c40r a days hf (by omega)) (by first | exact .inl rfl | exact .inr (.inl rfl)) ?_ ; simp (disch := omega) only [amL, amT, sA, sF, ↓reduceIte])
         all_goals
          skip
          refine hK13 _ ?_
          refine awp_cond rfl (fun h => ?_) (fun h => ?_)
          ·first
           | exact Bool.noConfusion h
           |skip
            try simp only [Bool.not_eq_true', decide_eq_true_eq, decide_eq_false_iff_not, Bool.and_eq_true, Bool.not_eq_false', Bool.not_not, decide_not, Bool.not_true, Bool.not_false] at h
            refine awp_seq_k fun K14 hK14 => ?_
            refine awp_ops ?_
            simp (disch := omega) only [amL, sA]
            refine hK14 _ ?_
            refine awp_ret ?_
            try simp (disch := omega) only [amL, ↓reduceIte]
            all_goals first | rfl | (rw [bne_self_eq_false] at h; cases h) | (omega)
          ·first
           | exact Bool.noConfusion h
           |skip
            try simp only [Bool.not_eq_true', decide_eq_true_eq, decide_eq_false_iff_not, Bool.and_eq_true, Bool.not_eq_false', Bool.not_not, decide_not, Bool.not_true, Bool.not_false] at h
            refine awp_skip ?_
            refine hK12 _ ?_
            refine awp_seq_k fun K15 hK15 => ?_
            refine awp_ops ?_
            simp (disch := omega) only [amL, amT, sA, sB, sF, ↓reduceIte]
            repeat' first | (refine EC_intro (by kernel_rfl) rfl (c41 a hf) (by first | exact .inl rfl | exact .inr (.inl rfl)) ?_ ; simp (disch := omega) only [hr, optV_some, optV_none, amL, sA, sF, ↓reduceIte])
            refine hK15 _ ?_
            refine awp_seq_k fun K16 hK16 => ?_
            refine awp_seq_k fun K17 hK17 => ?_
            refine awp_ops ?_
            simp (disch := omega) only [amL, sA, ↓reduceIte]
            refine hK17 _ ?_
            refine awp_cond rfl (fun h => ?_) (fun h => ?_)
            ·first
             | exact Bool.noConfusion h
             |skip
              try simp only [Bool.not_eq_true'] at h
              refine awp_seq_k fun K18 hK18 => ?_
              refine awp_ops ?_
              simp (disch := omega) only [amL, amT, sA, sF, ↓reduceIte]
              repeat' first | (refine EG_dec (fun h => ?_) (fun h => ?_) <;> simp (disch := omega) only [h, pA, pr, sE, hw, hf, hp, hr, optV_some, optV_none, ne_eq, amL, amT, sA, sB, sC, sD, sE, sF, sG, sH, sI, sJ, sK, sL, sM, sN, sO, ↓reduceIte, reduceCtorEq]) | (refine EG_cases (fun h => ?_) (fun h => ?_) <;> simp (disch := omega) only [h, pA, pr, sE, hw, hf, hp, hr, optV_some, optV_none, ne_eq, amL, amT, sA, sB, sC, sD, sE, sF, sG, sH, sI, sJ, sK, sL, sM, sN, sO, ↓reduceIte, reduceCtorEq]) | (refine EC_intro (by kernel_rfl) rfl (c20) (by first | exact .inl rfl | exact .inr (.inl rfl)) ?_ ; simp (disch := omega) only [amL, sA, sF, ↓reduceIte])
              all_goals
               skip
               refine hK18 _ ?_
               refine awp_ret ?_
               try simp (disch := omega) only [amL, ↓reduceIte]
               all_goals first | rfl | (rw [bne_self_eq_false] at h; cases h) | (omega)
            ·first
             | exact Bool.noConfusion h
             |skip
              try simp only [] at h
              refine awp_skip ?_
              refine hK16 _ ?_
              refine awp_seq_k fun K19 hK19 => ?_
              refine awp_ops ?_
              simp (disch := omega) only [amL, amT, sA, sF, ↓reduceIte]
              repeat' first | (refine EG_dec (fun h => ?_) (fun h => ?_) <;> simp (disch := omega) only [h, pA, pr, sE, hw, hf, hp, hr, optV_some, optV_none, ne_eq, amL, amT, sA, sB, sC, sD, sE, sF, sG, sH, sI, sJ, sK, sL, sM, sN, sO, ↓reduceIte, reduceCtorEq]) | (refine EG_cases (fun h => ?_) (fun h => ?_) <;> simp (disch := omega) only [h, pA, pr, sE, hw, hf, hp, hr, optV_some, optV_none, ne_eq, amL, amT, sA, sB, sC, sD, sE, sF, sG, sH, sI, sJ, sK, sL, sM, sN, sO, ↓reduceIte, reduceCtorEq]) | (refine EC_intro (by kernel_rfl) rfl (c28d _ (by omega)) (by first | exact .inl rfl | exact .inr (.inl rfl)) ?_ ; simp (disch := omega) only [amL, sA, sF, ↓reduceIte]) | (refine EC_intro (by kernel_rfl) rfl (c20) (by first | exact .inl rfl | exact .inr (.inl rfl)) ?_ ; simp (disch := omega) only [amL, sA, sF, ↓reduceIte])
              all_goals
               skip
               refine hK19 _ ?_
               refine awp_ret ?_
               try simp (disch := omega) only [amL, ↓reduceIte]
               all_goals first | rfl | (rw [bne_self_eq_false] at h; cases h) | (omega)
end AM.Try
end
