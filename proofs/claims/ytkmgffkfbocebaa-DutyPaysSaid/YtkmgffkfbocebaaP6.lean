/- Lemmas for the proof: an abstract machine over the program's form in Lean, and the program's functions walked on it. -/
import Derived.Test.YtkmgffkfbocebaaP5
import Derived.Test.YtkmgffkfbocebaaRows
import Derived.ProofKit
import Derived.Deep.Slices
import Derived.ChangeStays
/- The reference: truths. -/
section
namespace AM.Try
open Go AM AM.Duty
open Nat renaming reduceLT → sA, reduceAdd → sB, reduceMul → sC, reduceSub → sD, reduceLeDiff → sE, reduceEqDiff → sF, reduceBEq → sG
open Int renaming reduceAdd → sH, reduceSub → sI, reduceMul → sJ, reduceLT → sK, reduceLE → sL, reduceNeg → sM, reduceToNat → sN, reduceEq → sO
set_option maxHeartbeats 4000000
def isTruth (a : Acc) (t : List Int) : Bool := (debtsS a t []).2
def nthT (a : Acc) (n : Nat) : List Int := nthS a.entries (n : Int)
theorem valid_small {a : Acc} (h : faultS a = 0) : smallE a.entries := small_of_all (last := a.last) (by have := fault_zero h; omega) (fault_zero h).2.2.2.2.1
theorem sizes_nat {a : Acc} (h : faultS a = 0) : ((sizes a.entries).toNat : Int) = sizes a.entries ∧ sizes a.entries ≤ 1000 := by
  have h1 := sizes_lt (valid_small h) (Nat.le_refl _)
  rw [List.take_length] at h1
  have := fault_zero h
  omega
def manyT (a : Acc) : Nat := (sizes a.entries).toNat
def possibleS (a : Acc) : Bool := (List.range (manyT a)).any fun n => isTruth a (nthT a n)
theorem possible_yes {a : Acc} {k : Nat} (hk : k < manyT a) (h : isTruth a (nthT a k) = true) : bl true = bl (possibleS a) := by
  have : possibleS a = true := by
    rw [possibleS, List.any_eq_true]
    exact ⟨k, by simpa using hk, h⟩
  rw [this]
theorem possible_no {a : Acc} {k : Nat} (hk : manyT a ≤ k) (h : ∀ j, j < k → isTruth a (nthT a j) = false) : bl false = bl (possibleS a) := by
  have : possibleS a = false := by
    rw [possibleS, List.any_eq_false]
    intro j hj
    rw [h j (by have : j < manyT a := by simpa using hj
                omega)]
    simp
  rw [this]
theorem no_step {a : Acc} {k : Nat} (h : ∀ j, j < k → isTruth a (nthT a j) = false) (hk : isTruth a (nthT a k) = false) : ∀ j, j < k + 1 → isTruth a (nthT a j) = false := fun j hj => by
  by_cases e : j = k
  · subst e; exact hk
  · exact h j (by omega)
theorem c49 (a : Acc) (hv : faultS a = 0) : PCall Go.Proofs.Try.prog 49 [avA a] (bl (possibleS a)) := by
  refine pcall_mk (v := []) (q := []) (N := 21) (rs := [.tmp 2]) Go.Proofs.Try.func49 rfl rfl rfl rfl rfl ?_
  have hsm := valid_small hv
  have hsz := sizes_nat hv
  refine awp_seq_k fun K1 hK1 => ?_
  refine awp_ops ?_
  simp (disch := omega) only [amL, sA, ↓reduceIte]
  refine hK1 _ ?_
  refine awp_seq_k fun K2 hK2 => ?_
  refine awp_seq_k fun K3 hK3 => ?_
  refine awp_ops ?_
  simp (disch := omega) only [amL, sA]
  refine hK3 _ ?_
  refine awp_block ?_
  skip
  refine awp_loop_k (α := Nat) (fun k => ⟨T [(1, .ptr 1 0), (3, i64 k)], O [(1, .cells (cA a))]⟩) (fun k => manyT a - k) (fun k => k ≤ manyT a ∧ ∀ j, j < k → isTruth a (nthT a j) = false) 0 ?_ ?_ (fun k hx4 K4 hK4 => ?_)
  · simp
  · refine le_mk ?_ ?_ ?_ ?_ <;> (try simp (disch := omega) only [amL, sF, ↓reduceIte])
  obtain ⟨hk, hn⟩ := hx4; unfold manyT at hk
  refine awp_seq_k fun K5 hK5 => ?_
  refine awp_seq_k fun K6 hK6 => ?_
  refine awp_ops ?_
  simp (disch := omega) only [amL, amT, sA, sB, sF, ↓reduceIte]
  repeat' first | (refine EC_intro (by kernel_rfl) rfl (c50 a hsm) (by first | exact .inl rfl | exact .inr (.inl rfl)) ?_ ; simp (disch := omega) only [amL, amT, sA, sF, ↓reduceIte])
  refine hK6 _ ?_
  refine awp_cond rfl (fun h => ?_) (fun h => ?_)
  ·first
   | exact Bool.noConfusion h
   |skip
    try simp only [decide_eq_true_eq] at h
    refine awp_skip ?_
    refine hK5 _ ?_
    refine awp_seq_k fun K7 hK7 => ?_
    refine awp_block ?_
    refine awp_seq_k fun K8 hK8 => ?_
    refine awp_any2 (by kernel_rfl) (by kernel_rfl) ?_
    simp (disch := omega) only [amL, amT, sA, sB, sF, ↓reduceIte]
    repeat' first | (refine EC_intro (by kernel_rfl) rfl (c73 a _ hsm (by omega) (by omega)) (by first | exact .inl rfl | exact .inr (.inl rfl)) ?_ ; simp (disch := omega) only [amL, sF, ↓reduceIte]) | (refine EC_intro (by kernel_rfl) rfl (PCall.of_nil 2 rfl (c27 a _ [] (fit_nth hv _) (by decide))) (by first | exact .inl rfl | exact .inr (.inl rfl)) ?_ ; simp (disch := omega) only [amL, sA, sF, ↓reduceIte])
    refine hK8 _ ?_
    refine awp_seq_k fun K9 hK9 => ?_
    refine awp_ops ?_
    simp (disch := omega) only [amL, ↓reduceIte]
    refine hK9 _ ?_
    refine awp_cond rfl (fun h => ?_) (fun h => ?_)
    ·first
     | exact Bool.noConfusion h
     |skip
      try simp only [Bool.not_eq_true', decide_eq_true_eq, decide_eq_false_iff_not, Bool.and_eq_true, Bool.not_eq_false', Bool.not_not, decide_not, Bool.not_true, Bool.not_false] at h
      refine awp_seq_k fun K10 hK10 => ?_
      refine awp_ops ?_
      simp (disch := omega) only [amL, sA]
      refine hK10 _ ?_
      refine awp_ret ?_
      try simp (disch := omega) only [amL, ↓reduceIte]
      all_goals first | exact possible_yes (k := k) (by unfold manyT; omega) h | exact possible_no (k := k) (by unfold manyT; omega) hn
    ·first
     | exact Bool.noConfusion h
     |skip
      try simp only [Bool.not_eq_true', decide_eq_true_eq, decide_eq_false_iff_not, Bool.and_eq_true, Bool.not_eq_false', Bool.not_not, decide_not, Bool.not_true, Bool.not_false] at h
      refine awp_skip ?_
      refine hK7 _ ?_
      refine awp_ops ?_
      simp (disch := omega) only [amL, amT, sA, sF, ↓reduceIte]
      refine hK4 (k+1) _ ?_ ?_ (le_mk ?_ ?_ ?_ ?_)
      all_goals (try simp (disch := omega) only [amL, sF, ↓reduceIte])
      all_goals first | exact ⟨by unfold manyT; omega, no_step hn h⟩ | (unfold manyT; omega)
  ·first
   | exact Bool.noConfusion h
   |skip
    try simp only [decide_eq_false_iff_not] at h
    refine awp_exit ?_
    refine hK2 _ ?_
    refine awp_seq_k fun K11 hK11 => ?_
    refine awp_ops ?_
    simp (disch := omega) only [amL, sA]
    refine hK11 _ ?_
    refine awp_ret ?_
    try simp (disch := omega) only [amL, ↓reduceIte]
    all_goals first | exact possible_yes (k := k) (by unfold manyT; omega) h | exact possible_no (k := k) (by unfold manyT; omega) hn
end AM.Try
end
/- The statements: what is read of the arguments is what the walks take; what a pure call leaves is what the statements ask. -/
section
namespace AM.Try
set_option maxRecDepth 100000
open Go AM AM.Duty Go.ChangeShapes Go.WideShapes Go.ChangeAt Go.RowKit
noncomputable abbrev TP : Program := Go.Proofs.Try.prog
theorem tp_laid : laidOutB TP = true := by kernel_rfl
theorem tp_maps : mapsRowed TP = true := by kernel_rfl
theorem tp_kids : Kids TP (· < TP.types.size) := kids_rows tp_laid tp_maps
theorem tp_full : ∀ t e, t < TP.types.size → TP.underlying t = some (.slice e) → 0 < TP.cellsOf e := slices_full_of TP (by kernel_rfl)
theorem tp_own : ownKnob TP.godebug = none := by kernel_rfl
section
variable {H : Type} {enc : TypeId × Value → H} {W W' : World}
theorem same_at (hk : Keeps (fun b => W.heap.size ≤ b) W W') {p : MemPlace} (hp : p.block < W.heap.size) : W.sameAt W' p := by
  have h := hk.same p.block hp (by omega)
  cases p with
  | cell b off => simp only [World.sameAt, World.cell?]; rw [show W'.heap[b]? = W.heap[b]? from h]
  | map b => exact h
theorem reads_again (hk : Keeps (fun b => W.heap.size ≤ b) W W') (sp : Nat → Bool) : ∀ {ts : List TypeId} {vs : List Value} {ds : List (DataW H)} {p : List MemPlace},
    (∀ t ∈ ts, t < TP.types.size) → DataW.TrodAll enc TP W 0 (fun _ => true) true ts vs ds p → (∀ x ∈ p, x.block < W.heap.size) → (∀ x ∈ p, sp x.block = true) → DataW.TrodAll enc TP W' 0 sp true ts vs ds p
  | [], [], [], _, _, h, _, _ => h
  | _ :: _, _ :: _, _ :: _, _, hT, ⟨p, q, ⟨n, h1⟩, h2, e⟩, hl, hs =>
    ⟨p, q, ⟨n, DataW.trod_stays tp_kids (fun ht hu => tp_full _ _ ht hu) (fun h => by cases h) (hT _ (List.mem_cons.2 (Or.inl rfl))) h1 (fun x hx => same_at hk (hl x (by rw [e]; exact List.mem_append_left _ hx))) (fun x hx => hs x (by rw [e]; exact List.mem_append_left _ hx))⟩,
      reads_again hk sp (fun t ht => hT t (List.mem_cons.2 (Or.inr ht))) h2 (fun x hx => hl x (by rw [e]; exact List.mem_append_right _ hx)) (fun x hx => hs x (by rw [e]; exact List.mem_append_right _ hx)), e⟩
theorem kept_of_keeps (hk : Keeps (fun b => W.heap.size ≤ b) W W') (may : MemPlace → Prop) : W.keptBut W' may := by
  refine ⟨hk.os, hk.output, fun i hi => ?_⟩
  have h := hk.same i hi (by omega)
  rw [h]
  cases W.heap[i]? with
  | none => rfl
  | some o => cases o <;> first | exact ⟨rfl, rfl, rfl, fun _ _ => rfl⟩ | exact .inr ⟨rfl, rfl⟩ | rfl
theorem law_post {fn : Func} {s : ChangeSpec} {args : Array Value} {ds gs : List (DataW H)} {before : List MemPlace} (hr : fn.resultTypes = #[4]) (hp : ∀ t ∈ fn.params.toList, t < TP.types.size) (hv : s.vars = [])
    (hfn : s.fn H (ds ++ gs) = { results := [.lit (.bool true)], args := ds }) (hW : DataW.Whole enc TP fn.params.toList s.vars false W args.toList ds gs before) (hk : Keeps (fun b => W.heap.size ≤ b) W W') :
    s.post enc TP fn false true false false W args (.bool true) W' := by
  have hW0 := hW
  obtain ⟨p, q, hA, hV, rfl, hz, hn⟩ := hW
  rw [hv] at hV
  obtain ⟨rfl, rfl⟩ := trodVars_none hV
  have hlt : ∀ x ∈ p, x.block < W.heap.size := hA.lt
  refine ⟨ds, [], p ++ [], [], p, [], hW0, ?_, ?_, ?_, World.keptBut_mono (fun x hx => ⟨hx, .inr (.inl (by simpa using hx))⟩) (kept_of_keeps hk _), fun h => by cases h⟩
  · rw [hfn, hr]; exact trodAll_mk1 (shut_bool Go.Proofs.Try.underlying4 true)
  · rw [hfn]; exact reads_again hk _ hp hA hlt (fun x hx => by simpa using hlt x hx)
  · rw [hfn, hv]; rfl
theorem law_calls {f : FuncId} {avs : List AV} {fn : Func} {s : ChangeSpec} {args : Array Value} {ds gs : List (DataW H)} {before : List MemPlace} (hc : PCall TP f avs (bl true)) (hsz : args.size = avs.length) (hrel : ∀ θ (i : Nat) (x : AV), avs[i]? = some x → ARel θ (fun _ => False) W x (args.getD i undef))
    (hr : fn.resultTypes = #[4]) (hp : ∀ t ∈ fn.params.toList, t < TP.types.size) (hv : s.vars = []) (hfn : s.fn H (ds ++ gs) = { results := [.lit (.bool true)], args := ds }) (hW : DataW.Whole enc TP fn.params.toList s.vars false W args.toList ds gs before) :
    Calls TP f args W fun e W' => ∃ v, e = .returned v ∧ s.post enc TP fn false true false false W args v W' := by
  refine (hc.2 (fun _ => ⟨0, 0, true⟩) (fun _ => False) W args (fun b h => h.elim) hsz (fun i x hx => hrel _ i x hx)).mono ?_
  rintro e W' ⟨v, rfl, hv', hk⟩
  cases hv' with
  | p _ _ h =>
    cases h with
    | val _ _ => exact ⟨_, rfl, law_post hr hp hv hfn hW hk⟩
theorem prel_rows {rows : List (List Int)} {b o len cap k : Nat} (hlen : rows.length = len) (hc : len ≤ cap) (hk : ∀ r ∈ rows, r.length = k)
    (hcell : ∀ (i : Nat) (r : List Int) (j : Nat) (m : Int), rows[i]? = some r → r[j]? = some m → W.cell? ⟨b, o + (i * k + j), none⟩ = some (.int .i64 m)) : PRel (fun _ => False) W (.sl (rows.map fun r => r.map iv)) (.slice (some ⟨b, o, none⟩) len cap) := by
  have h := PRel.sl (M := fun _ => False) (w := W) (rows.map fun r => r.map iv) b o cap k (fun i j => (W.cell? ⟨b, o + (i * k + j), none⟩).getD undef) (fun i e he => ?_) (by rw [List.length_map, hlen]; exact hc) (fun i e j x he hx => ?_) (fun i e j x he hx => ?_)
  · rw [List.length_map, hlen] at h; exact h
  · simp only [List.getElem?_map, Option.map_eq_some_iff] at he
    obtain ⟨r, hr, rfl⟩ := he
    rw [List.length_map]; exact hk r (List.mem_of_getElem? hr)
  all_goals
    simp only [List.getElem?_map, Option.map_eq_some_iff] at he
    obtain ⟨r, hr, rfl⟩ := he
    simp only [List.getElem?_map, Option.map_eq_some_iff] at hx
    obtain ⟨m, hm, rfl⟩ := hx
    have hc := hcell i r j m hr hm
    rw [hc]
  · exact ⟨fun h => h, rfl⟩
  · exact .val _ rfl
theorem inR_wf {m : Int} (h : (Lit.int .i64 m).wf = true) : inR m = true := by
  simp only [Lit.wf, IntKind.min, IntKind.max, IntKind.signed, IntKind.bits, Bool.and_eq_true, decide_eq_true_eq] at h
  simp only [inR, Bool.and_eq_true, decide_eq_true_eq]
  constructor <;> simp_all
theorem add_none {b o i : Nat} : Addr.add ⟨b, o, none⟩ i = ⟨b, o + i, none⟩ := by
  unfold Addr.add
  split
  · rename_i h; simp_all
  · rfl
theorem open_recs {t e k fuel : Nat} {cs : List Value} {x : DataW H × List MemPlace} (ht : TP.underlying t = some (.slice e)) (hk : TP.cellsOf e = k)
    (hel : ∀ n cs x, DataW.trod enc TP W 0 (fun _ => true) true n e cs = some x → ∃ ms : List Int, cs = ms.map (fun m => Value.int .i64 m) ∧ ms.length = k ∧ ∀ m ∈ ms, inR m = true)
    (h : DataW.trod enc TP W 0 (fun _ => true) true fuel t cs = some x) (hsp : ∀ a len cap, cs = [.slice (some a) len cap] → a.spot = none) :
    ∃ rows : List (List Int), (∀ r ∈ rows, r.length = k ∧ ∀ m ∈ r, inR m = true) ∧ ∃ v, cs = [v] ∧ PRel (fun _ => False) W (.sl (rows.map fun r => r.map iv)) v := by
  rcases Go.Deep.open_slice ht h with ⟨rfl, _⟩ | ⟨a, len, cap, m, n, D, Pl, rfl, _, hl, hm, hmm, _, hi⟩
  · exact ⟨[], by simp, _, rfl, .nil⟩
  · have hs := hsp a len cap rfl
    obtain ⟨b, o, sp⟩ := a
    dsimp only at hs; subst hs
    simp only [if_true] at hmm
    subst hmm
    obtain ⟨F, hF⟩ := Go.Deep.choose_lt (α := List Int) (n := m) (p := fun i ms => W.cells? 0 (Addr.add ⟨b, o, none⟩ (i * k)) k = some (ms.map fun m => Value.int .i64 m) ∧ ms.length = k ∧ ∀ m ∈ ms, inR m = true) (fun i h1 => by
      obtain ⟨cs', h2, h3⟩ := hi i h1
      obtain ⟨ms, rfl, h4, h5⟩ := hel _ _ _ h3
      rw [hk] at h2
      exact ⟨ms, h2, h4, h5⟩)
    refine ⟨(List.range len).map F, fun r hr => ?_, _, rfl, prel_rows (k := k) (by simp) hl (fun r hr => ?_) (fun i r j m hr hm => ?_)⟩
    · obtain ⟨i, h1, rfl⟩ := List.mem_map.1 hr
      exact (hF i (by have := List.mem_range.1 h1; omega)).2
    · obtain ⟨i, h1, rfl⟩ := List.mem_map.1 hr
      exact (hF i (by have := List.mem_range.1 h1; omega)).2.1
    · simp only [List.getElem?_map, Option.map_eq_some_iff] at hr
      obtain ⟨i', h1, rfl⟩ := hr
      have hlt : i < len := by
        have := (List.getElem?_eq_some_iff.1 h1).1; simpa using this
      have e : i' = i := by
        rw [List.getElem?_range hlt] at h1; exact (Option.some.inj h1).symm
      subst e
      obtain ⟨h2, h3, _⟩ := hF i' (by omega)
      obtain ⟨_, _, h4⟩ := World.cells?_some h2
      have hj : j < k := by rw [← h3]; exact (List.getElem?_eq_some_iff.1 hm).1
      have h5 := h4 j hj
      rw [List.getElem?_map, hm] at h5
      rw [add_none, add_none, Nat.add_assoc] at h5
      exact h5
theorem el3 (n : Nat) (cs : List Value) (x : DataW H × List MemPlace) (h : DataW.trod enc TP W 0 (fun _ => true) true n 3 cs = some x) : ∃ ms : List Int, cs = ms.map (fun m => Value.int .i64 m) ∧ ms.length = 1 ∧ ∀ m ∈ ms, inR m = true := by
  obtain ⟨m, rfl, _, hw⟩ := DataW.trod_int Go.Proofs.Try.underlying3 h
  exact ⟨[m], rfl, rfl, fun y hy => by rw [List.mem_singleton.1 hy]; exact inR_wf hw⟩
theorem cells3 : TP.cellsOf 3 = 1 := by kernel_rfl
theorem cells92 : TP.cellsOf 92 = 2 := by kernel_rfl
theorem cells56 : TP.cellsOf 56 = 2 := by kernel_rfl
theorem cells78 : TP.cellsOf 78 = 5 := by kernel_rfl
theorem cells25 : TP.cellsOf 25 = 6 := by kernel_rfl
theorem cells22 : TP.cellsOf 22 = 1 := by kernel_rfl
theorem cells23 : TP.cellsOf 23 = 1 := by kernel_rfl
theorem one_of {cs : List Value} {j : Nat} {ms : List Int} (h1 : (cs.drop j).take 1 = ms.map (fun m => Value.int .i64 m)) (h2 : ms.length = 1) (h3 : ∀ m ∈ ms, inR m = true) : ∃ m, cs[j]? = some (.int .i64 m) ∧ inR m = true := by
  obtain ⟨m, rfl⟩ := List.length_eq_one_iff.1 h2
  refine ⟨m, ?_, h3 m (by simp)⟩
  have h := congrArg (fun l => l[0]?) h1
  simpa using h
theorem at3 {n j : Nat} {cs : List Value} {x : DataW H × List MemPlace} (h : DataW.trod enc TP W 0 (fun _ => true) true n 3 ((cs.drop j).take 1) = some x) : ∃ m, cs[j]? = some (.int .i64 m) ∧ inR m = true := by
  obtain ⟨ms, h1, h2, h3⟩ := el3 _ _ _ h
  exact one_of h1 h2 h3
theorem two_struct {e n : Nat} {f0 f1 : Field} {cs : List Value} {x : DataW H × List MemPlace} (he : TP.underlying e = some (.struct #[f0, f1])) (hc : TP.cellsOf e = 2) (h0 : f0.type = 3 ∧ f0.offset = 0) (h1 : f1.type = 3 ∧ f1.offset = 1)
    (h : DataW.trod enc TP W 0 (fun _ => true) true n e cs = some x) : ∃ ms : List Int, cs = ms.map (fun m => Value.int .i64 m) ∧ ms.length = 2 ∧ ∀ m ∈ ms, inR m = true := by
  obtain ⟨xs, n', _, _, hl, hxs, hf⟩ := DataW.trod_struct he h
  have hxs : xs.length = 2 := hxs
  match xs, hxs with
  | [y0, y1], _ =>
    have g0 := hf 0 f0 rfl
    have g1 := hf 1 f1 rfl
    rw [h0.1, h0.2, cells3] at g0
    rw [h1.1, h1.2, cells3] at g1
    obtain ⟨a, ha, wa⟩ := at3 g0
    obtain ⟨b, hb, wb⟩ := at3 g1
    rw [hc] at hl
    match cs, hl with
    | [c0, c1], _ =>
      simp only [List.getElem?_cons_zero, Option.some.injEq] at ha
      simp only [List.getElem?_cons_succ, List.getElem?_cons_zero, Option.some.injEq] at hb
      subst ha hb
      exact ⟨[a, b], rfl, rfl, fun y hy => by simp at hy; rcases hy with rfl | rfl <;> assumption⟩
theorem el92 (n : Nat) (cs : List Value) (x : DataW H × List MemPlace) (h : DataW.trod enc TP W 0 (fun _ => true) true n 92 cs = some x) : ∃ ms : List Int, cs = ms.map (fun m => Value.int .i64 m) ∧ ms.length = 2 ∧ ∀ m ∈ ms, inR m = true :=
  two_struct Go.Proofs.Try.underlying92 cells92 ⟨rfl, rfl⟩ ⟨rfl, rfl⟩ h
theorem four_struct {e n : Nat} {f0 f1 f2 f3 : Field} {cs : List Value} {x : DataW H × List MemPlace} (he : TP.underlying e = some (.struct #[f0, f1, f2, f3])) (hc : TP.cellsOf e = 5) (h0 : f0.type = 3 ∧ f0.offset = 0) (h1 : f1.type = 3 ∧ f1.offset = 1) (h2 : f2.type = 56 ∧ f2.offset = 2) (h3 : f3.type = 3 ∧ f3.offset = 4)
    (h : DataW.trod enc TP W 0 (fun _ => true) true n e cs = some x) : ∃ ms : List Int, cs = ms.map (fun m => Value.int .i64 m) ∧ ms.length = 5 ∧ ∀ m ∈ ms, inR m = true := by
  obtain ⟨xs, n', _, _, hl, hxs, hf⟩ := DataW.trod_struct he h
  have hxs : xs.length = 4 := hxs
  match xs, hxs with
  | [y0, y1, y2, y3], _ =>
    have g0 := hf 0 f0 rfl
    have g1 := hf 1 f1 rfl
    have g2 := hf 2 f2 rfl
    have g3 := hf 3 f3 rfl
    rw [h0.1, h0.2, cells3] at g0
    rw [h1.1, h1.2, cells3] at g1
    rw [h2.1, h2.2, cells56] at g2
    rw [h3.1, h3.2, cells3] at g3
    obtain ⟨a, ha, wa⟩ := at3 g0
    obtain ⟨b, hb, wb⟩ := at3 g1
    obtain ⟨ms, k1, k2, k3⟩ := two_struct Go.Proofs.Try.underlying56 cells56 ⟨rfl, rfl⟩ ⟨rfl, rfl⟩ g2
    obtain ⟨c, hc', wc⟩ := at3 g3
    rw [hc] at hl
    match cs, hl, ms, k2 with
    | [c0, c1, c2, c3, c4], _, [m0, m1], _ =>
      simp at ha hb hc' k1
      obtain ⟨rfl, rfl⟩ := k1
      subst ha hb hc'
      exact ⟨[a, b, m0, m1, c], rfl, rfl, fun y hy => by
        simp at hy
        rcases hy with rfl | rfl | rfl | rfl | rfl
        · exact wa
        · exact wb
        · exact k3 _ (by simp)
        · exact k3 _ (by simp)
        · exact wc⟩
theorem el78 (n : Nat) (cs : List Value) (x : DataW H × List MemPlace) (h : DataW.trod enc TP W 0 (fun _ => true) true n 78 cs = some x) : ∃ ms : List Int, cs = ms.map (fun m => Value.int .i64 m) ∧ ms.length = 5 ∧ ∀ m ∈ ms, inR m = true :=
  four_struct Go.Proofs.Try.underlying78 cells78 ⟨rfl, rfl⟩ ⟨rfl, rfl⟩ ⟨rfl, rfl⟩ ⟨rfl, rfl⟩ h
theorem open_isl {base : Nat} {v : Value} {d : DataW H} {p : List MemPlace} (hv : Value.okWide TP W .any base 26 v) (h : DataW.Trod enc TP W 0 (fun _ => true) true 26 v d p) : ∃ l : List Int, (∀ θ, ARel θ (fun _ => False) W (isl l) v) ∧ ∀ m ∈ l, inR m = true := by
  obtain ⟨a0, len0, cap0, rfl⟩ := okWide_slice Go.Proofs.Try.underlying26 hv
  obtain ⟨n, hn⟩ := h
  obtain ⟨rows, h1, v', hv', hp⟩ := open_recs Go.Proofs.Try.underlying26 cells3 el3 hn (fun a len cap e => by
    simp only [Value.cells, List.cons.injEq, and_true, Value.slice.injEq] at e
    obtain ⟨rfl, rfl, rfl⟩ := e
    simp only [Value.okWide, Go.Proofs.Try.underlying26, Cell.okWide, Cell.ok, World.has] at hv
    exact hv.2.2.2.1)
  simp only [Value.cells, List.cons.injEq, and_true] at hv'
  subst hv'
  refine ⟨rows.map fun r => r.headD 0, fun θ => .p _ _ ?_, fun m hm => ?_⟩
  · have e : ((rows.map fun r => r.headD 0).map fun n => [iv n]) = rows.map fun r => r.map iv := by
      rw [List.map_map]
      refine List.map_congr_left fun r hr => ?_
      obtain ⟨m, rfl⟩ := List.length_eq_one_iff.1 (h1 r hr).1
      rfl
    rw [e]; exact hp
  · obtain ⟨r, hr, rfl⟩ := List.mem_map.1 hm
    obtain ⟨m, rfl⟩ := List.length_eq_one_iff.1 (h1 r hr).1
    exact (h1 _ hr).2 _ (by simp)
theorem sl_at {t j n : Nat} {cs : List Value} {x : DataW H × List MemPlace} (h : DataW.trod enc TP W 0 (fun _ => true) true n t ((cs.drop j).take 1) = some x) (hj : j < cs.length) : ∃ v, cs[j]? = some v ∧ DataW.trod enc TP W 0 (fun _ => true) true n t [v] = some x := by
  refine ⟨cs[j], List.getElem?_eq_getElem hj, ?_⟩
  rw [List.drop_eq_getElem_cons hj] at h
  exact h
def AccIn (a : Acc) : Prop := (inR a.last = true ∧ inR a.interest = true ∧ inR a.bond = true ∧ inR a.purse = true) ∧ (∀ r ∈ a.rates, inR r.day = true ∧ inR r.pence = true) ∧ ∀ e ∈ a.entries, inR e.kind = true ∧ inR e.day = true ∧ inR e.lo = true ∧ inR e.hi = true ∧ inR e.pence = true
def mkR (l : List Int) : Rate := ⟨l.getD 0 0, l.getD 1 0⟩
def mkE (l : List Int) : Entry := ⟨l.getD 0 0, l.getD 1 0, l.getD 2 0, l.getD 3 0, l.getD 4 0⟩
theorem encR_mk {l : List Int} (h : l.length = 2) : encR (mkR l) = l.map iv := by
  match l, h with
  | [a, b], _ => rfl
theorem encE_mk {l : List Int} (h : l.length = 5) : encE (mkE l) = l.map iv := by
  match l, h with
  | [a, b, c, d, e], _ => rfl
theorem six_struct {e n : Nat} {f0 f1 f2 f3 f4 f5 : Field} {cs : List Value} {x : DataW H × List MemPlace} (he : TP.underlying e = some (.struct #[f0, f1, f2, f3, f4, f5])) (hc : TP.cellsOf e = 6) (h0 : f0.type = 3 ∧ f0.offset = 0) (h1 : f1.type = 3 ∧ f1.offset = 1) (h2 : f2.type = 3 ∧ f2.offset = 2) (h3 : f3.type = 3 ∧ f3.offset = 3) (h4 : f4.type = 22 ∧ f4.offset = 4) (h5 : f5.type = 23 ∧ f5.offset = 5)
    (hs4 : ∀ b len cap, cs[4]? = some (.slice (some b) len cap) → b.spot = none) (hs5 : ∀ b len cap, cs[5]? = some (.slice (some b) len cap) → b.spot = none)
    (h : DataW.trod enc TP W 0 (fun _ => true) true n e cs = some x) : ∃ a : Acc, AccIn a ∧ ∀ θ, ARel θ (fun _ => False) W (avA a) (.agg cs.toArray) := by
  obtain ⟨xs, n', _, _, hl, hxs, hf⟩ := DataW.trod_struct he h
  have hxs : xs.length = 6 := hxs
  match xs, hxs with
  | [y0, y1, y2, y3, y4, y5], _ =>
    have g0 := hf 0 f0 rfl
    have g1 := hf 1 f1 rfl
    have g2 := hf 2 f2 rfl
    have g3 := hf 3 f3 rfl
    have g4 := hf 4 f4 rfl
    have g5 := hf 5 f5 rfl
    rw [h0.1, h0.2, cells3] at g0
    rw [h1.1, h1.2, cells3] at g1
    rw [h2.1, h2.2, cells3] at g2
    rw [h3.1, h3.2, cells3] at g3
    rw [h4.1, h4.2, cells22] at g4
    rw [h5.1, h5.2, cells23] at g5
    obtain ⟨a, ha, wa⟩ := at3 g0
    obtain ⟨b, hb, wb⟩ := at3 g1
    obtain ⟨c, hc', wc⟩ := at3 g2
    obtain ⟨d, hd, wd⟩ := at3 g3
    rw [hc] at hl
    obtain ⟨v4, hv4, k4⟩ := sl_at g4 (by omega)
    obtain ⟨v5, hv5, k5⟩ := sl_at g5 (by omega)
    obtain ⟨rs, r1, v4', r2, r3⟩ := open_recs Go.Proofs.Try.underlying22 cells92 el92 k4 (fun b len cap e => hs4 b len cap (by rw [hv4, List.head_eq_of_cons_eq e]))
    obtain ⟨es, e1, v5', e2, e3⟩ := open_recs Go.Proofs.Try.underlying23 cells78 el78 k5 (fun b len cap e => hs5 b len cap (by rw [hv5, List.head_eq_of_cons_eq e]))
    have r2 := List.head_eq_of_cons_eq r2
    have e2 := List.head_eq_of_cons_eq e2
    subst r2 e2
    match cs, hl with
    | [c0, c1, c2, c3, c4, c5], _ =>
      simp at ha hb hc' hd hv4 hv5
      subst ha hb hc' hd hv4 hv5
      have hrs : (rs.map mkR).map encR = rs.map fun r => r.map iv := by
        rw [List.map_map]; exact List.map_congr_left fun r hr => encR_mk (r1 r hr).1
      have hes : (es.map mkE).map encE = es.map fun r => r.map iv := by
        rw [List.map_map]; exact List.map_congr_left fun r hr => encE_mk (e1 r hr).1
      refine ⟨⟨a, b, c, d, rs.map mkR, es.map mkE⟩, ⟨⟨wa, wb, wc, wd⟩, fun r hr => ?_, fun e he => ?_⟩, fun θ => .agg _ _ rfl (fun i hi => ?_) (fun i x hx => ?_)⟩
      · obtain ⟨l, hl, rfl⟩ := List.mem_map.1 hr
        obtain ⟨h1, h2⟩ := r1 l hl
        match l, h1 with
        | [p, q], _ => exact ⟨h2 _ (by simp [mkR]), h2 _ (by simp [mkR])⟩
      · obtain ⟨l, hl, rfl⟩ := List.mem_map.1 he
        obtain ⟨h1, h2⟩ := e1 l hl
        match l, h1 with
        | [p, q, r, s, u], _ => exact ⟨h2 _ (by simp [mkE]), h2 _ (by simp [mkE]), h2 _ (by simp [mkE]), h2 _ (by simp [mkE]), h2 _ (by simp [mkE])⟩
      · have hr := r3.oneCell
        have he := e3.oneCell
        match i, hi with
        | 0, _ => rfl
        | 1, _ => rfl
        | 2, _ => rfl
        | 3, _ => rfl
        | 4, _ => exact hr
        | 5, _ => exact he
      · match i, hx with
        | 0, hx => cases hx; exact .p _ _ (.val _ rfl)
        | 1, hx => cases hx; exact .p _ _ (.val _ rfl)
        | 2, hx => cases hx; exact .p _ _ (.val _ rfl)
        | 3, hx => cases hx; exact .p _ _ (.val _ rfl)
        | 4, hx => cases hx; dsimp only; rw [hrs]; exact .p _ _ r3
        | 5, hx => cases hx; dsimp only; rw [hes]; exact .p _ _ e3
theorem types25 : TP.cellTypes TP.depth 25 = some [3, 3, 3, 3, 22, 23] := by kernel_rfl
theorem open_acc {base : Nat} {v : Value} {d : DataW H} {p : List MemPlace} (hv : Value.okWide TP W .any base 25 v) (h : DataW.Trod enc TP W 0 (fun _ => true) true 25 v d p) : ∃ a : Acc, AccIn a ∧ ∀ θ, ARel θ (fun _ => False) W (avA a) v := by
  simp only [Value.okWide, Go.Proofs.Try.underlying25] at hv
  obtain ⟨cs, rfl, _, ts, hts, _, hall⟩ := hv
  rw [types25] at hts
  cases hts
  obtain ⟨n, hn⟩ := h
  obtain ⟨l⟩ := cs
  refine six_struct Go.Proofs.Try.underlying25 cells25 ⟨rfl, rfl⟩ ⟨rfl, rfl⟩ ⟨rfl, rfl⟩ ⟨rfl, rfl⟩ ⟨rfl, rfl⟩ ⟨rfl, rfl⟩ (fun b len cap hb => ?_) (fun b len cap hb => ?_) hn
  · obtain ⟨u, hu, hok⟩ := hall 4 _ (by simpa using hb)
    simp at hu; subst hu
    simp only [Go.Proofs.Try.underlying22, Cell.okWide, Cell.ok, World.has] at hok
    exact hok.2.2.2.1
  · obtain ⟨u, hu, hok⟩ := hall 5 _ (by simpa using hb)
    simp at hu; subst hu
    simp only [Go.Proofs.Try.underlying23, Cell.okWide, Cell.ok, World.has] at hok
    exact hok.2.2.2.1
end
end AM.Try
end
/- The law of plays. -/
section
namespace AM.Try
open Go AM AM.Duty
open Nat renaming reduceLT → sA, reduceAdd → sB, reduceMul → sC, reduceSub → sD, reduceLeDiff → sE, reduceEqDiff → sF, reduceBEq → sG
open Int renaming reduceAdd → sH, reduceSub → sI, reduceMul → sJ, reduceLT → sK, reduceLE → sL, reduceNeg → sM, reduceToNat → sN, reduceEq → sO
set_option maxHeartbeats 8000000
set_option maxRecDepth 100000
theorem c24 (a : Acc) (hl1 : a.rates.length < 1000000) (hl2 : a.entries.length < 1000000) : PCall Go.Proofs.Try.prog 24 [avA a] (i64 (faultS a)) := by
  refine pcall_mk (v := []) (q := []) (N := 5) (rs := [.tmp 2]) Go.Proofs.Try.func24 rfl rfl rfl rfl rfl ?_
  refine awp_seq_k fun K1 hK1 => ?_
  refine awp_ops ?_
  simp (disch := omega) only [amL, sA, ↓reduceIte]
  refine hK1 _ ?_
  refine awp_seq_k fun K2 hK2 => ?_
  refine awp_ops ?_
  simp (disch := omega) only [amL, amT, sA, sB, sF, ↓reduceIte]
  repeat' first | (refine EC_intro (by kernel_rfl) rfl (c61 a hl1 hl2) (by first | exact .inl rfl | exact .inr (.inl rfl)) ?_ ; simp (disch := omega) only [amL, sA, ↓reduceIte])
  refine hK2 _ ?_
  refine awp_ret ?_
  try simp (disch := omega) only [amL, ↓reduceIte]
  skip
theorem debts_len {a : Acc} {t paid : List Int} : ∀ {c day : Nat} {w : Wk}, (debtsF a t paid c day w).1.length = c
  | 0, _, _ => rfl
  | c + 1, day, w => by simp only [debtsF, List.length_cons, debts_len]
theorem playA_eq (a : Acc) (t : List Int) : playA a t = if faultS a = 0 then if listedS a.entries t = true then if (debtsS a t []).2 = true then .tup [isl (debtsS a t []).1, i64 0] else .tup [nilS, i64 11] else .tup [nilS, i64 2] else .tup [nilS, i64 (faultS a)] := by
  unfold playA
  split
  · rename_i hf
    obtain ⟨h1, h2⟩ := playS_ask hf t
    rw [listed_eq, h1]
    split
    · split
      · rename_i h; rw [h2 h]
      · rfl
    · rfl
  · rfl
theorem c28s (x : List Int) (h : x.length < 1000000) : PCall Go.Proofs.Try.prog 28 [isl x, isl x] (bl true) := by
  have := c28 x x h h
  rwa [decide_eq_true rfl] at this
theorem in_of {a : Acc} (h : AccIn a) : ∀ e ∈ a.entries, inR e.lo = true ∧ inR e.hi = true := fun e he => ⟨(h.2.2 e he).2.2.1, (h.2.2 e he).2.2.2.1⟩
theorem last_lt {a : Acc} (hf : faultS a = 0) : (a.last + 1).toNat < 1000000 := by
  obtain ⟨_, _, z3, _, _, _⟩ := fault_zero hf
  simp only [inB, Bool.and_eq_true, decide_eq_true_eq] at z3
  omega
theorem debtsS_len {a : Acc} (hf : faultS a = 0) (t paid : List Int) : (debtsS a t paid).1.length < 1000000 := by
  unfold debtsS; rw [debts_len]; exact last_lt hf
theorem c3 (a : Acc) (t : List Int) (hin : AccIn a) : PCall Go.Proofs.Try.prog 3 [avA a, isl t] (bl true) := by
  refine pcall_mk (v := []) (q := []) (N := 71) (rs := [.tmp 4]) Go.Proofs.Try.func3 rfl rfl rfl rfl rfl ?_
  have pA := playA_eq a t
  have hin' := in_of hin
  by_cases hf : faultS a = 0 <;> cases hl : listedS a.entries t <;> cases hd : (debtsS a t []).2
  all_goals
    refine awp_seq_k fun K1 hK1 => ?_
    refine awp_ops ?_
    simp (disch := omega) only [amL, sA, sB, ↓reduceIte]
    refine hK1 _ ?_
    refine awp_seq_k fun K2 hK2 => ?_
    refine awp_seq_k fun K3 hK3 => ?_
    refine awp_ops ?_
    simp (disch := omega) only [amL, amT, sA, sB, sF, ↓reduceIte]
    repeat' first | (refine EG_dec (fun h => ?_) (fun h => ?_) <;> simp (disch := omega) only [h, pA, hf, hl, hd, ne_eq, amL, amT, sA, sB, sC, sD, sE, sF, sG, sH, sI, sJ, sK, sL, sM, sN, sO, ↓reduceIte, reduceCtorEq]) | (refine EG_cases (fun h => ?_) (fun h => ?_) <;> simp (disch := omega) only [h, amL, amT, sA, sF, ↓reduceIte, reduceCtorEq]) | (refine EC_intro (by kernel_rfl) rfl (c19 a) (by first | exact .inl rfl | exact .inr (.inl rfl)) ?_ ; simp (disch := omega) only [amL, sA, ↓reduceIte])
    all_goals
     skip
     refine hK3 _ ?_
     refine awp_cond rfl (fun h => ?_) (fun h => ?_)
     ·first
      | exact Bool.noConfusion h
      |skip
       try simp only [decide_eq_true_eq] at h
       refine awp_seq_k fun K4 hK4 => ?_
       refine awp_ops ?_
       simp (disch := omega) only [amL]
       repeat' first | (refine EC_intro (by kernel_rfl) rfl (c20) (by first | exact .inl rfl | exact .inr (.inl rfl)) ?_ ; simp (disch := omega) only [amL, sA, ↓reduceIte])
       refine hK4 _ ?_
       refine awp_ret ?_
       try simp (disch := omega) only [amL, ↓reduceIte]
       all_goals rfl
     ·first
      | exact Bool.noConfusion h
      |skip
       try simp only [decide_eq_false_iff_not] at h
       refine awp_skip ?_
       refine hK2 _ ?_
       refine awp_seq_k fun K5 hK5 => ?_
       refine awp_ops ?_
       rename_i h0
       simp only [Bool.not_eq_false', Bool.and_eq_true, decide_eq_true_eq] at h0
       obtain ⟨h1, h2⟩ := h0
       have h3 : t.length ≤ 13 := by omega
       simp (disch := omega) only [amL, amT, sA, sB, sF, ↓reduceIte]
       repeat' first | (refine EC_intro (by kernel_rfl) rfl (c22 a (by omega) (by omega)) (by first | exact .inl rfl | exact .inr (.inl rfl)) ?_ ; simp (disch := omega) only [amL, sA, sF, ↓reduceIte, reduceCtorEq]) | (refine EC_intro (by kernel_rfl) rfl (c23 t (by omega)) (by first | exact .inl rfl | exact .inr (.inl rfl)) ?_ ; simp (disch := omega) only [amL, sF, ↓reduceIte]) | (refine EC_intro (by kernel_rfl) rfl (c21 a t (by omega) (by omega) (by omega) hin') (by first | exact .inl rfl | exact .inr (.inl rfl)) ?_ ; simp (disch := omega) only [pA, hf, hl, hd, amL, sA, sF, ↓reduceIte])
       refine hK5 _ ?_
       refine awp_seq_k fun K6 hK6 => ?_
       refine awp_ops ?_
       simp (disch := omega) only [amL, amT, sA, sB, sF, ↓reduceIte]
       repeat' first | (refine EC_intro (by kernel_rfl) rfl (c24 a (by omega) (by omega)) (by first | exact .inl rfl | exact .inr (.inl rfl)) ?_ ; simp (disch := omega) only [hf, amL, sA, ↓reduceIte])
       refine hK6 _ ?_
       refine awp_seq_k fun K7 hK7 => ?_
       refine awp_seq_k fun K8 hK8 => ?_
       refine awp_ops ?_
       simp (disch := omega) only [amL, amT, sA, sB, sF, ↓reduceIte]
       repeat' first | (refine EC_intro (by kernel_rfl) rfl (c22 a (by omega) (by omega)) (by first | exact .inl rfl | exact .inr (.inl rfl)) ?_ ; simp (disch := omega) only [amL, ↓reduceIte]) | (refine EC_intro (by kernel_rfl) rfl (c25 a (by omega) (by omega) hin') (by first | exact .inl rfl | exact .inr (.inl rfl)) ?_ ; simp (disch := omega) only [hf, ne_eq, amL, amT, sA, sF, ↓reduceIte])
       refine hK8 _ ?_
       refine awp_cond rfl (fun h => ?_) (fun h => ?_)
       ·first
        | exact Bool.noConfusion h
        |skip
         try simp only [Bool.not_eq_true', decide_eq_true_eq, decide_eq_false_iff_not, Bool.and_eq_true, Bool.not_eq_false', Bool.not_not, decide_not, Bool.not_true, Bool.not_false] at h
         refine awp_seq_k fun K9 hK9 => ?_
         refine awp_ops ?_
         simp (disch := omega) only [pA, hf, hl, hd, ne_eq, amL, amT, sA, sB, sC, sD, sE, sF, sG, sH, sI, sJ, sK, sL, sM, sN, sO, ↓reduceIte, reduceCtorEq]
         refine hK9 _ ?_
         refine awp_ret ?_
         try simp (disch := omega) only [pA, hf, hl, hd, ne_eq, amL, amT, sA, sB, sC, sD, sE, sF, sG, sH, sI, sJ, sK, sL, sM, sN, sO, ↓reduceIte, reduceCtorEq]
         all_goals rfl
       ·first
        | exact Bool.noConfusion h
        |skip
         try simp only [] at h
         refine awp_skip ?_
         refine hK7 _ ?_
         refine awp_seq_k fun K10 hK10 => ?_
         refine awp_ops ?_
         simp (disch := omega) only [amL, sA]
         refine hK10 _ ?_
         refine awp_seq_k fun K11 hK11 => ?_
         refine awp_seq_k fun K12 hK12 => ?_
         refine awp_ops ?_
         simp (disch := omega) only [hf, amL, amT, sA, sF, ↓reduceIte]
         refine hK12 _ ?_
         refine awp_cond rfl (fun h => ?_) (fun h => ?_)
         ·first
          | exact Bool.noConfusion h
          |skip
           try simp only [] at h
           refine awp_seq_k fun K13 hK13 => ?_
           refine awp_ops ?_
           simp (disch := omega) only [amL, sA]
           refine hK13 _ ?_
           refine awp_seq_k fun K14 hK14 => ?_
           refine awp_ops ?_
           simp (disch := omega) only [amL, amT, sA, sB, sF, ↓reduceIte, reduceCtorEq]
           repeat' first | (refine EC_intro (by kernel_rfl) rfl (c26 a t (by omega) (by omega)) (by first | exact .inl rfl | exact .inr (.inl rfl)) ?_ ; simp (disch := omega) only [hl, amL, sA, ↓reduceIte])
           refine hK14 _ ?_
           refine awp_cond rfl (fun h => ?_) (fun h => ?_)
           ·first
            | exact Bool.noConfusion h
            |skip
             try simp only [] at h
             refine awp_ops ?_
             simp (disch := omega) only [amL, sA]
             refine hK11 _ ?_
             refine awp_seq_k fun K15 hK15 => ?_
             refine awp_seq_k fun K16 hK16 => ?_
             refine awp_ops ?_
             simp (disch := omega) only [ne_eq, amL, amT, sA, sO, ↓reduceIte]
             refine hK16 _ ?_
             refine awp_cond rfl (fun h => ?_) (fun h => ?_)
             ·first
              | exact Bool.noConfusion h
              |skip
               try simp only [] at h
               refine awp_seq_k fun K17 hK17 => ?_
               refine awp_ops ?_
               simp (disch := omega) only [amL, amT, sA, sF, ↓reduceIte]
               repeat' first | (refine EG_dec (fun h => ?_) (fun h => ?_) <;> simp (disch := omega) only [h, pA, hf, hl, hd, ne_eq, amL, amT, sA, sB, sC, sD, sE, sF, sG, sH, sI, sJ, sK, sL, sM, sN, sO, ↓reduceIte, reduceCtorEq]) | (refine EG_cases (fun h => ?_) (fun h => ?_) <;> simp (disch := omega) only [h, pA, hf, hl, hd, ne_eq, amL, amT, sA, sB, sC, sD, sE, sF, sG, sH, sI, sJ, sK, sL, sM, sN, sO, ↓reduceIte, reduceCtorEq]) | (refine EC_intro (by kernel_rfl) rfl (c20) (by first | exact .inl rfl | exact .inr (.inl rfl)) ?_ ; simp (disch := omega) only [amL, sA, sF, ↓reduceIte])
               all_goals
                skip
                refine hK17 _ ?_
                refine awp_ret ?_
                try simp (disch := omega) only [amL, ↓reduceIte]
                all_goals rfl
             ·first
              | exact Bool.noConfusion h
              |skip
               try simp only [Bool.not_eq_true', decide_eq_true_eq, decide_eq_false_iff_not, Bool.and_eq_true, Bool.not_eq_false', Bool.not_not, decide_not, Bool.not_true, Bool.not_false] at h
               refine awp_skip ?_
               refine hK15 _ ?_
               refine awp_seq_k fun K18 hK18 => ?_
               refine awp_ops ?_
               simp (disch := omega) only [pA, hf, hl, hd, ne_eq, amL, amT, sA, sB, sC, sD, sE, sF, sG, sH, sI, sJ, sK, sL, sM, sN, sO, ↓reduceIte, reduceCtorEq]
               repeat' first | (refine EG_dec (fun h => ?_) (fun h => ?_) <;> simp (disch := omega) only [h, pA, hf, hl, hd, ne_eq, amL, amT, sA, sB, sC, sD, sE, sF, sG, sH, sI, sJ, sK, sL, sM, sN, sO, ↓reduceIte, reduceCtorEq]) | (refine EG_cases (fun h => ?_) (fun h => ?_) <;> simp (disch := omega) only [h, pA, hf, hl, hd, ne_eq, amL, amT, sA, sB, sC, sD, sE, sF, sG, sH, sI, sJ, sK, sL, sM, sN, sO, ↓reduceIte, reduceCtorEq]) | (refine EC_intro (by kernel_rfl) rfl (c28s _ (debtsS_len hf t [])) (by first | exact .inl rfl | exact .inr (.inl rfl)) ?_ ; simp (disch := omega) only [pA, hf, hl, hd, ne_eq, amL, amT, sA, sB, sC, sD, sE, sF, sG, sH, sI, sJ, sK, sL, sM, sN, sO, ↓reduceIte, reduceCtorEq]) | (refine EC_intro (by kernel_rfl) rfl (c20) (by first | exact .inl rfl | exact .inr (.inl rfl)) ?_ ; simp (disch := omega) only [pA, hf, hl, hd, ne_eq, amL, amT, sA, sB, sC, sD, sE, sF, sG, sH, sI, sJ, sK, sL, sM, sN, sO, ↓reduceIte, reduceCtorEq])
               all_goals
                skip
                refine hK18 _ ?_
                refine awp_ret ?_
                try simp (disch := omega) only [pA, hf, hl, hd, ne_eq, amL, amT, sA, sB, sC, sD, sE, sF, sG, sH, sI, sJ, sK, sL, sM, sN, sO, ↓reduceIte, reduceCtorEq]
                all_goals rfl
           ·first
            | exact Bool.noConfusion h
            |skip
             try simp only [] at h
             refine awp_seq_k fun K19 hK19 => ?_
             refine awp_ops ?_
             simp (disch := omega) only [amL, amT, sA, sB, sF, ↓reduceIte, reduceCtorEq]
             repeat' first | (refine EC_intro (by kernel_rfl) rfl (PCall.of_nil 2 rfl (c27 a t [] (fit_listed hf hl) (by simp))) (by first | exact .inl rfl | exact .inr (.inl rfl)) ?_ ; simp (disch := omega) only [hd, amL, sA, sF, ↓reduceIte])
             refine hK19 _ ?_
             refine awp_seq_k fun K20 hK20 => ?_
             refine awp_ops ?_
             simp (disch := omega) only [amL, sA, ↓reduceIte]
             refine hK20 _ ?_
             refine awp_cond rfl (fun h => ?_) (fun h => ?_)
             ·first
              | exact Bool.noConfusion h
              |skip
               try simp only [] at h
               refine awp_ops ?_
               simp (disch := omega) only [amL, sA]
               refine hK11 _ ?_
               refine awp_seq_k fun K21 hK21 => ?_
               refine awp_seq_k fun K22 hK22 => ?_
               refine awp_ops ?_
               simp (disch := omega) only [ne_eq, amL, amT, sA, sO, ↓reduceIte]
               refine hK22 _ ?_
               refine awp_cond rfl (fun h => ?_) (fun h => ?_)
               ·first
                | exact Bool.noConfusion h
                |skip
                 try simp only [] at h
                 refine awp_seq_k fun K23 hK23 => ?_
                 refine awp_ops ?_
                 simp (disch := omega) only [amL, amT, sA, sF, ↓reduceIte]
                 repeat' first | (refine EG_dec (fun h => ?_) (fun h => ?_) <;> simp (disch := omega) only [h, pA, hf, hl, hd, ne_eq, amL, amT, sA, sB, sC, sD, sE, sF, sG, sH, sI, sJ, sK, sL, sM, sN, sO, ↓reduceIte, reduceCtorEq]) | (refine EG_cases (fun h => ?_) (fun h => ?_) <;> simp (disch := omega) only [h, pA, hf, hl, hd, ne_eq, amL, amT, sA, sB, sC, sD, sE, sF, sG, sH, sI, sJ, sK, sL, sM, sN, sO, ↓reduceIte, reduceCtorEq]) | (refine EC_intro (by kernel_rfl) rfl (c20) (by first | exact .inl rfl | exact .inr (.inl rfl)) ?_ ; simp (disch := omega) only [amL, sA, sF, ↓reduceIte])
                 all_goals
                  skip
                  refine hK23 _ ?_
                  refine awp_ret ?_
                  try simp (disch := omega) only [amL, ↓reduceIte]
                  all_goals rfl
               ·first
                | exact Bool.noConfusion h
                |skip
                 try simp only [Bool.not_eq_true', decide_eq_true_eq, decide_eq_false_iff_not, Bool.and_eq_true, Bool.not_eq_false', Bool.not_not, decide_not, Bool.not_true, Bool.not_false] at h
                 refine awp_skip ?_
                 refine hK21 _ ?_
                 refine awp_seq_k fun K24 hK24 => ?_
                 refine awp_ops ?_
                 simp (disch := omega) only [pA, hf, hl, hd, ne_eq, amL, amT, sA, sB, sC, sD, sE, sF, sG, sH, sI, sJ, sK, sL, sM, sN, sO, ↓reduceIte, reduceCtorEq]
                 repeat' first | (refine EG_dec (fun h => ?_) (fun h => ?_) <;> simp (disch := omega) only [h, pA, hf, hl, hd, ne_eq, amL, amT, sA, sB, sC, sD, sE, sF, sG, sH, sI, sJ, sK, sL, sM, sN, sO, ↓reduceIte, reduceCtorEq]) | (refine EG_cases (fun h => ?_) (fun h => ?_) <;> simp (disch := omega) only [h, pA, hf, hl, hd, ne_eq, amL, amT, sA, sB, sC, sD, sE, sF, sG, sH, sI, sJ, sK, sL, sM, sN, sO, ↓reduceIte, reduceCtorEq]) | (refine EC_intro (by kernel_rfl) rfl (c28s _ (debtsS_len hf t [])) (by first | exact .inl rfl | exact .inr (.inl rfl)) ?_ ; simp (disch := omega) only [pA, hf, hl, hd, ne_eq, amL, amT, sA, sB, sC, sD, sE, sF, sG, sH, sI, sJ, sK, sL, sM, sN, sO, ↓reduceIte, reduceCtorEq]) | (refine EC_intro (by kernel_rfl) rfl (c20) (by first | exact .inl rfl | exact .inr (.inl rfl)) ?_ ; simp (disch := omega) only [pA, hf, hl, hd, ne_eq, amL, amT, sA, sB, sC, sD, sE, sF, sG, sH, sI, sJ, sK, sL, sM, sN, sO, ↓reduceIte, reduceCtorEq])
                 all_goals
                  skip
                  refine hK24 _ ?_
                  refine awp_ret ?_
                  try simp (disch := omega) only [pA, hf, hl, hd, ne_eq, amL, amT, sA, sB, sC, sD, sE, sF, sG, sH, sI, sJ, sK, sL, sM, sN, sO, ↓reduceIte, reduceCtorEq]
                  all_goals rfl
             ·first
              | exact Bool.noConfusion h
              |skip
               try simp only [] at h
               refine awp_skip ?_
               refine hK11 _ ?_
               refine awp_seq_k fun K25 hK25 => ?_
               refine awp_seq_k fun K26 hK26 => ?_
               refine awp_ops ?_
               simp (disch := omega) only [ne_eq, amL, amT, sA, sF, ↓reduceIte]
               refine hK26 _ ?_
               refine awp_cond rfl (fun h => ?_) (fun h => ?_)
               ·first
                | exact Bool.noConfusion h
                |skip
                 try simp only [Bool.not_eq_true', decide_eq_true_eq, decide_eq_false_iff_not, Bool.and_eq_true, Bool.not_eq_false', Bool.not_not, decide_not, Bool.not_true, Bool.not_false] at h
                 refine awp_seq_k fun K27 hK27 => ?_
                 refine awp_ops ?_
                 simp (disch := omega) only [pA, hf, hl, hd, ne_eq, amL, amT, sA, sB, sC, sD, sE, sF, sG, sH, sI, sJ, sK, sL, sM, sN, sO, ↓reduceIte, reduceCtorEq]
                 repeat' first | (refine EG_dec (fun h => ?_) (fun h => ?_) <;> simp (disch := omega) only [h, pA, hf, hl, hd, ne_eq, amL, amT, sA, sB, sC, sD, sE, sF, sG, sH, sI, sJ, sK, sL, sM, sN, sO, ↓reduceIte, reduceCtorEq]) | (refine EG_cases (fun h => ?_) (fun h => ?_) <;> simp (disch := omega) only [h, pA, hf, hl, hd, ne_eq, amL, amT, sA, sB, sC, sD, sE, sF, sG, sH, sI, sJ, sK, sL, sM, sN, sO, ↓reduceIte, reduceCtorEq]) | (refine EC_intro (by kernel_rfl) rfl (c20) (by first | exact .inl rfl | exact .inr (.inl rfl)) ?_ ; simp (disch := omega) only [pA, hf, hl, hd, ne_eq, amL, amT, sA, sB, sC, sD, sE, sF, sG, sH, sI, sJ, sK, sL, sM, sN, sO, ↓reduceIte, reduceCtorEq])
                 all_goals
                  skip
                  refine hK27 _ ?_
                  refine awp_ret ?_
                  try simp (disch := omega) only [pA, hf, hl, hd, ne_eq, amL, amT, sA, sB, sC, sD, sE, sF, sG, sH, sI, sJ, sK, sL, sM, sN, sO, ↓reduceIte, reduceCtorEq]
                  all_goals rfl
               ·first
                | exact Bool.noConfusion h
                |skip
                 try simp only [] at h
                 refine awp_skip ?_
                 refine hK25 _ ?_
                 refine awp_seq_k fun K28 hK28 => ?_
                 refine awp_ops ?_
                 simp (disch := omega) only [amL, amT, sA, sF, ↓reduceIte]
                 repeat' first | (refine EG_dec (fun h => ?_) (fun h => ?_) <;> simp (disch := omega) only [h, pA, hf, hl, hd, ne_eq, amL, amT, sA, sB, sC, sD, sE, sF, sG, sH, sI, sJ, sK, sL, sM, sN, sO, ↓reduceIte, reduceCtorEq]) | (refine EG_cases (fun h => ?_) (fun h => ?_) <;> simp (disch := omega) only [h, pA, hf, hl, hd, ne_eq, amL, amT, sA, sB, sC, sD, sE, sF, sG, sH, sI, sJ, sK, sL, sM, sN, sO, ↓reduceIte, reduceCtorEq]) | (refine EC_intro (by kernel_rfl) rfl (c28s _ (debtsS_len hf t [])) (by first | exact .inl rfl | exact .inr (.inl rfl)) ?_ ; simp (disch := omega) only [amL, sA, sF, ↓reduceIte]) | (refine EC_intro (by kernel_rfl) rfl (c20) (by first | exact .inl rfl | exact .inr (.inl rfl)) ?_ ; simp (disch := omega) only [amL, sA, sF, ↓reduceIte])
                 all_goals
                  skip
                  refine hK28 _ ?_
                  refine awp_ret ?_
                  try simp (disch := omega) only [amL, ↓reduceIte]
                  all_goals rfl
         ·first
          | exact Bool.noConfusion h
          |skip
           try simp only [] at h
           refine awp_skip ?_
           refine hK11 _ ?_
           refine awp_seq_k fun K29 hK29 => ?_
           refine awp_seq_k fun K30 hK30 => ?_
           refine awp_ops ?_
           simp (disch := omega) only [hf, ne_eq, amL, amT, sA, sF, ↓reduceIte]
           refine hK30 _ ?_
           refine awp_cond rfl (fun h => ?_) (fun h => ?_)
           ·first
            | exact Bool.noConfusion h
            |skip
             try simp only [] at h
             refine awp_seq_k fun K31 hK31 => ?_
             refine awp_ops ?_
             simp (disch := omega) only [amL, amT, sA, sF, ↓reduceIte]
             repeat' first | (refine EG_dec (fun h => ?_) (fun h => ?_) <;> simp (disch := omega) only [h, pA, hf, hl, hd, ne_eq, amL, amT, sA, sB, sC, sD, sE, sF, sG, sH, sI, sJ, sK, sL, sM, sN, sO, ↓reduceIte, reduceCtorEq]) | (refine EG_cases (fun h => ?_) (fun h => ?_) <;> simp (disch := omega) only [h, pA, hf, hl, hd, ne_eq, amL, amT, sA, sB, sC, sD, sE, sF, sG, sH, sI, sJ, sK, sL, sM, sN, sO, ↓reduceIte, reduceCtorEq]) | (refine EC_intro (by kernel_rfl) rfl (c20) (by first | exact .inl rfl | exact .inr (.inl rfl)) ?_ ; simp (disch := omega) only [amL, sA, sF, ↓reduceIte])
             all_goals
              skip
              refine hK31 _ ?_
              refine awp_ret ?_
              try simp (disch := omega) only [amL, ↓reduceIte]
              all_goals rfl
           ·first
            | exact Bool.noConfusion h
            |skip
             try simp only [Bool.not_eq_true', decide_eq_true_eq, decide_eq_false_iff_not, Bool.and_eq_true, Bool.not_eq_false', Bool.not_not, decide_not, Bool.not_true, Bool.not_false] at h
             refine awp_skip ?_
             refine hK29 _ ?_
             refine awp_seq_k fun K32 hK32 => ?_
             refine awp_ops ?_
             simp (disch := omega) only [pA, hf, hl, hd, ne_eq, amL, amT, sA, sB, sC, sD, sE, sF, sG, sH, sI, sJ, sK, sL, sM, sN, sO, ↓reduceIte, reduceCtorEq]
             repeat' first | (refine EG_dec (fun h => ?_) (fun h => ?_) <;> simp (disch := omega) only [h, pA, hf, hl, hd, ne_eq, amL, amT, sA, sB, sC, sD, sE, sF, sG, sH, sI, sJ, sK, sL, sM, sN, sO, ↓reduceIte, reduceCtorEq]) | (refine EG_cases (fun h => ?_) (fun h => ?_) <;> simp (disch := omega) only [h, pA, hf, hl, hd, ne_eq, amL, amT, sA, sB, sC, sD, sE, sF, sG, sH, sI, sJ, sK, sL, sM, sN, sO, ↓reduceIte, reduceCtorEq]) | (refine EC_intro (by kernel_rfl) rfl (c28s _ (debtsS_len hf t [])) (by first | exact .inl rfl | exact .inr (.inl rfl)) ?_ ; simp (disch := omega) only [pA, hf, hl, hd, ne_eq, amL, amT, sA, sB, sC, sD, sE, sF, sG, sH, sI, sJ, sK, sL, sM, sN, sO, ↓reduceIte, reduceCtorEq]) | (refine EC_intro (by kernel_rfl) rfl (c20) (by first | exact .inl rfl | exact .inr (.inl rfl)) ?_ ; simp (disch := omega) only [pA, hf, hl, hd, ne_eq, amL, amT, sA, sB, sC, sD, sE, sF, sG, sH, sI, sJ, sK, sL, sM, sN, sO, ↓reduceIte, reduceCtorEq])
             all_goals
              skip
              refine hK32 _ ?_
              refine awp_ret ?_
              try simp (disch := omega) only [pA, hf, hl, hd, ne_eq, amL, amT, sA, sB, sC, sD, sE, sF, sG, sH, sI, sJ, sK, sL, sM, sN, sO, ↓reduceIte, reduceCtorEq]
              all_goals rfl
end AM.Try
end
