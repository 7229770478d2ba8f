/- Lemmas for the proof: more of the program's functions, walked on the abstract machine. -/
import Derived.Test.YtkmgffkfbocebaaP5
import Derived.Test.YtkmgffkfbocebaaRows
import Derived.ProofKit
import Derived.Deep.Slices
import Derived.ChangeStays
/- The reference: truths. -/
section
namespace AM.Try
open Go AM AM.Duty
open Nat renaming reduceLT → sA, reduceAdd → sB, reduceMul → sC, reduceSub → sD, reduceLeDiff → sE, reduceEqDiff → sF, reduceBEq → sG
open Int renaming reduceAdd → sH, reduceSub → sI, reduceMul → sJ, reduceLT → sK, reduceLE → sL, reduceNeg → sM, reduceToNat → sN, reduceEq → sO
set_option maxHeartbeats 4000000
def isTruth (a : Acc) (t : List Int) : Bool := (debtsS a t []).2
theorem valid_small {a : Acc} (h : faultS a = 0) : smallE a.entries := small_of_all (last := a.last) (by have := fault_zero h; omega) (fault_zero h).2.2.2.2.1
theorem sizes_nat {a : Acc} (h : faultS a = 0) : ((sizes a.entries).toNat : Int) = sizes a.entries ∧ sizes a.entries ≤ 1000 := by
  have h1 := sizes_lt (valid_small h) (Nat.le_refl _)
  rw [List.take_length] at h1
  have := fault_zero h
  omega
end AM.Try
end
/- The statements: what is read of the arguments is what the walks take; what a pure call leaves is what the statements ask. -/
section
namespace AM.Try
set_option maxRecDepth 100000
open Go AM AM.Duty Go.ChangeShapes Go.WideShapes Go.ChangeAt Go.RowKit
noncomputable abbrev TP : Program := Go.Proofs.Try.prog
theorem tp_laid : laidOutB TP = true := by kernel_rfl
theorem tp_maps : mapsRowed TP = true := by kernel_rfl
theorem tp_kids : Kids TP (· < TP.types.size) := kids_rows tp_laid tp_maps
theorem tp_full : ∀ t e, t < TP.types.size → TP.underlying t = some (.slice e) → 0 < TP.cellsOf e := slices_full_of TP (by kernel_rfl)
theorem tp_own : ownKnob TP.godebug = none := by kernel_rfl
section
variable {H : Type} {enc : TypeId × Value → H} {W W' : World}
theorem same_at (hk : Keeps (fun b => W.heap.size ≤ b) W W') {p : MemPlace} (hp : p.block < W.heap.size) : W.sameAt W' p := by
  have h := hk.same p.block hp (by omega)
  cases p with
  | cell b off => simp only [World.sameAt, World.cell?]; rw [show W'.heap[b]? = W.heap[b]? from h]
  | map b => exact h
theorem reads_again (hk : Keeps (fun b => W.heap.size ≤ b) W W') (sp : Nat → Bool) : ∀ {ts : List TypeId} {vs : List Value} {ds : List (DataW H)} {p : List MemPlace},
    (∀ t ∈ ts, t < TP.types.size) → DataW.TrodAll enc TP W 0 (fun _ => true) true ts vs ds p → (∀ x ∈ p, x.block < W.heap.size) → (∀ x ∈ p, sp x.block = true) → DataW.TrodAll enc TP W' 0 sp true ts vs ds p
  | [], [], [], _, _, h, _, _ => h
  | _ :: _, _ :: _, _ :: _, _, hT, ⟨p, q, ⟨n, h1⟩, h2, e⟩, hl, hs =>
    ⟨p, q, ⟨n, DataW.trod_stays tp_kids (fun ht hu => tp_full _ _ ht hu) (fun h => by cases h) (hT _ (List.mem_cons.2 (Or.inl rfl))) h1 (fun x hx => same_at hk (hl x (by rw [e]; exact List.mem_append_left _ hx))) (fun x hx => hs x (by rw [e]; exact List.mem_append_left _ hx))⟩,
      reads_again hk sp (fun t ht => hT t (List.mem_cons.2 (Or.inr ht))) h2 (fun x hx => hl x (by rw [e]; exact List.mem_append_right _ hx)) (fun x hx => hs x (by rw [e]; exact List.mem_append_right _ hx)), e⟩
theorem kept_of_keeps (hk : Keeps (fun b => W.heap.size ≤ b) W W') (may : MemPlace → Prop) : W.keptBut W' may := by
  refine ⟨hk.os, hk.output, fun i hi => ?_⟩
  have h := hk.same i hi (by omega)
  rw [h]
  cases W.heap[i]? with
  | none => rfl
  | some o => cases o <;> first | exact ⟨rfl, rfl, rfl, fun _ _ => rfl⟩ | exact .inr ⟨rfl, rfl⟩ | rfl
theorem law_post {fn : Func} {s : ChangeSpec} {args : Array Value} {ds gs : List (DataW H)} {before : List MemPlace} (hr : fn.resultTypes = #[4]) (hp : ∀ t ∈ fn.params.toList, t < TP.types.size) (hv : s.vars = [])
    (hfn : s.fn H (ds ++ gs) = { results := [.lit (.bool true)], args := ds }) (hW : DataW.Whole enc TP fn.params.toList s.vars false W args.toList ds gs before) (hk : Keeps (fun b => W.heap.size ≤ b) W W') :
    s.post enc TP fn false true false false W args (.bool true) W' := by
  have hW0 := hW
  obtain ⟨p, q, hA, hV, rfl, hz, hn⟩ := hW
  rw [hv] at hV
  obtain ⟨rfl, rfl⟩ := trodVars_none hV
  have hlt : ∀ x ∈ p, x.block < W.heap.size := hA.lt
  refine ⟨ds, [], p ++ [], [], p, [], hW0, ?_, ?_, ?_, World.keptBut_mono (fun x hx => ⟨hx, .inr (.inl (by simpa using hx))⟩) (kept_of_keeps hk _), fun h => by cases h⟩
  · rw [hfn, hr]; exact trodAll_mk1 (shut_bool Go.Proofs.Try.underlying4 true)
  · rw [hfn]; exact reads_again hk _ hp hA hlt (fun x hx => by simpa using hlt x hx)
  · rw [hfn, hv]; rfl
theorem law_calls {f : FuncId} {avs : List AV} {fn : Func} {s : ChangeSpec} {args : Array Value} {ds gs : List (DataW H)} {before : List MemPlace} (hc : PCall TP f avs (bl true)) (hsz : args.size = avs.length) (hrel : ∀ θ (i : Nat) (x : AV), avs[i]? = some x → ARel θ (fun _ => False) W x (args.getD i undef))
    (hr : fn.resultTypes = #[4]) (hp : ∀ t ∈ fn.params.toList, t < TP.types.size) (hv : s.vars = []) (hfn : s.fn H (ds ++ gs) = { results := [.lit (.bool true)], args := ds }) (hW : DataW.Whole enc TP fn.params.toList s.vars false W args.toList ds gs before) :
    Calls TP f args W fun e W' => ∃ v, e = .returned v ∧ s.post enc TP fn false true false false W args v W' := by
  refine (hc.2 (fun _ => ⟨0, 0, true⟩) (fun _ => False) W args (fun b h => h.elim) hsz (fun i x hx => hrel _ i x hx)).mono ?_
  rintro e W' ⟨v, rfl, hv', hk⟩
  cases hv' with
  | p _ _ h =>
    cases h with
    | val _ _ => exact ⟨_, rfl, law_post hr hp hv hfn hW hk⟩
theorem prel_rows {rows : List (List Int)} {b o len cap k : Nat} (hlen : rows.length = len) (hc : len ≤ cap) (hk : ∀ r ∈ rows, r.length = k)
    (hcell : ∀ (i : Nat) (r : List Int) (j : Nat) (m : Int), rows[i]? = some r → r[j]? = some m → W.cell? ⟨b, o + (i * k + j), none⟩ = some (.int .i64 m)) : PRel (fun _ => False) W (.sl (rows.map fun r => r.map iv)) (.slice (some ⟨b, o, none⟩) len cap) := by
  have h := PRel.sl (M := fun _ => False) (w := W) (rows.map fun r => r.map iv) b o cap k (fun i j => (W.cell? ⟨b, o + (i * k + j), none⟩).getD undef) (fun i e he => ?_) (by rw [List.length_map, hlen]; exact hc) (fun i e j x he hx => ?_) (fun i e j x he hx => ?_)
  · rw [List.length_map, hlen] at h; exact h
  · simp only [List.getElem?_map, Option.map_eq_some_iff] at he
    obtain ⟨r, hr, rfl⟩ := he
    rw [List.length_map]; exact hk r (List.mem_of_getElem? hr)
  all_goals
    simp only [List.getElem?_map, Option.map_eq_some_iff] at he
    obtain ⟨r, hr, rfl⟩ := he
    simp only [List.getElem?_map, Option.map_eq_some_iff] at hx
    obtain ⟨m, hm, rfl⟩ := hx
    have hc := hcell i r j m hr hm
    rw [hc]
  · exact ⟨fun h => h, rfl⟩
  · exact .val _ rfl
theorem inR_wf {m : Int} (h : (Lit.int .i64 m).wf = true) : inR m = true := by
  simp only [Lit.wf, IntKind.min, IntKind.max, IntKind.signed, IntKind.bits, Bool.and_eq_true, decide_eq_true_eq] at h
  simp only [inR, Bool.and_eq_true, decide_eq_true_eq]
  constructor <;> simp_all
theorem add_none {b o i : Nat} : Addr.add ⟨b, o, none⟩ i = ⟨b, o + i, none⟩ := by
  unfold Addr.add
  split
  · rename_i h; simp_all
  · rfl
theorem open_recs {t e k fuel : Nat} {cs : List Value} {x : DataW H × List MemPlace} (ht : TP.underlying t = some (.slice e)) (hk : TP.cellsOf e = k)
    (hel : ∀ n cs x, DataW.trod enc TP W 0 (fun _ => true) true n e cs = some x → ∃ ms : List Int, cs = ms.map (fun m => Value.int .i64 m) ∧ ms.length = k ∧ ∀ m ∈ ms, inR m = true)
    (h : DataW.trod enc TP W 0 (fun _ => true) true fuel t cs = some x) (hsp : ∀ a len cap, cs = [.slice (some a) len cap] → a.spot = none) :
    ∃ rows : List (List Int), (∀ r ∈ rows, r.length = k ∧ ∀ m ∈ r, inR m = true) ∧ ∃ v, cs = [v] ∧ PRel (fun _ => False) W (.sl (rows.map fun r => r.map iv)) v := by
  rcases Go.Deep.open_slice ht h with ⟨rfl, _⟩ | ⟨a, len, cap, m, n, D, Pl, rfl, _, hl, hm, hmm, _, hi⟩
  · exact ⟨[], by simp, _, rfl, .nil⟩
  · have hs := hsp a len cap rfl
    obtain ⟨b, o, sp⟩ := a
    dsimp only at hs; subst hs
    simp only [if_true] at hmm
    subst hmm
    obtain ⟨F, hF⟩ := Go.Deep.choose_lt (α := List Int) (n := m) (p := fun i ms => W.cells? 0 (Addr.add ⟨b, o, none⟩ (i * k)) k = some (ms.map fun m => Value.int .i64 m) ∧ ms.length = k ∧ ∀ m ∈ ms, inR m = true) (fun i h1 => by
      obtain ⟨cs', h2, h3⟩ := hi i h1
      obtain ⟨ms, rfl, h4, h5⟩ := hel _ _ _ h3
      rw [hk] at h2
      exact ⟨ms, h2, h4, h5⟩)
    refine ⟨(List.range len).map F, fun r hr => ?_, _, rfl, prel_rows (k := k) (by simp) hl (fun r hr => ?_) (fun i r j m hr hm => ?_)⟩
    · obtain ⟨i, h1, rfl⟩ := List.mem_map.1 hr
      exact (hF i (by have := List.mem_range.1 h1; omega)).2
    · obtain ⟨i, h1, rfl⟩ := List.mem_map.1 hr
      exact (hF i (by have := List.mem_range.1 h1; omega)).2.1
    · simp only [List.getElem?_map, Option.map_eq_some_iff] at hr
      obtain ⟨i', h1, rfl⟩ := hr
      have hlt : i < len := by
        have := (List.getElem?_eq_some_iff.1 h1).1; simpa using this
      have e : i' = i := by
        rw [List.getElem?_range hlt] at h1; exact (Option.some.inj h1).symm
      subst e
      obtain ⟨h2, h3, _⟩ := hF i' (by omega)
      obtain ⟨_, _, h4⟩ := World.cells?_some h2
      have hj : j < k := by rw [← h3]; exact (List.getElem?_eq_some_iff.1 hm).1
      have h5 := h4 j hj
      rw [List.getElem?_map, hm] at h5
      rw [add_none, add_none, Nat.add_assoc] at h5
      exact h5
theorem el3 (n : Nat) (cs : List Value) (x : DataW H × List MemPlace) (h : DataW.trod enc TP W 0 (fun _ => true) true n 3 cs = some x) : ∃ ms : List Int, cs = ms.map (fun m => Value.int .i64 m) ∧ ms.length = 1 ∧ ∀ m ∈ ms, inR m = true := by
  obtain ⟨m, rfl, _, hw⟩ := DataW.trod_int Go.Proofs.Try.underlying3 h
  exact ⟨[m], rfl, rfl, fun y hy => by rw [List.mem_singleton.1 hy]; exact inR_wf hw⟩
theorem cells3 : TP.cellsOf 3 = 1 := by kernel_rfl
theorem cells92 : TP.cellsOf 92 = 2 := by kernel_rfl
theorem cells56 : TP.cellsOf 56 = 2 := by kernel_rfl
theorem cells78 : TP.cellsOf 78 = 5 := by kernel_rfl
theorem cells25 : TP.cellsOf 25 = 6 := by kernel_rfl
theorem cells22 : TP.cellsOf 22 = 1 := by kernel_rfl
theorem cells23 : TP.cellsOf 23 = 1 := by kernel_rfl
theorem one_of {cs : List Value} {j : Nat} {ms : List Int} (h1 : (cs.drop j).take 1 = ms.map (fun m => Value.int .i64 m)) (h2 : ms.length = 1) (h3 : ∀ m ∈ ms, inR m = true) : ∃ m, cs[j]? = some (.int .i64 m) ∧ inR m = true := by
  obtain ⟨m, rfl⟩ := List.length_eq_one_iff.1 h2
  refine ⟨m, ?_, h3 m (by simp)⟩
  have h := congrArg (fun l => l[0]?) h1
  simpa using h
theorem at3 {n j : Nat} {cs : List Value} {x : DataW H × List MemPlace} (h : DataW.trod enc TP W 0 (fun _ => true) true n 3 ((cs.drop j).take 1) = some x) : ∃ m, cs[j]? = some (.int .i64 m) ∧ inR m = true := by
  obtain ⟨ms, h1, h2, h3⟩ := el3 _ _ _ h
  exact one_of h1 h2 h3
theorem two_struct {e n : Nat} {f0 f1 : Field} {cs : List Value} {x : DataW H × List MemPlace} (he : TP.underlying e = some (.struct #[f0, f1])) (hc : TP.cellsOf e = 2) (h0 : f0.type = 3 ∧ f0.offset = 0) (h1 : f1.type = 3 ∧ f1.offset = 1)
    (h : DataW.trod enc TP W 0 (fun _ => true) true n e cs = some x) : ∃ ms : List Int, cs = ms.map (fun m => Value.int .i64 m) ∧ ms.length = 2 ∧ ∀ m ∈ ms, inR m = true := by
  obtain ⟨xs, n', _, _, hl, hxs, hf⟩ := DataW.trod_struct he h
  have hxs : xs.length = 2 := hxs
  match xs, hxs with
  | [y0, y1], _ =>
    have g0 := hf 0 f0 rfl
    have g1 := hf 1 f1 rfl
    rw [h0.1, h0.2, cells3] at g0
    rw [h1.1, h1.2, cells3] at g1
    obtain ⟨a, ha, wa⟩ := at3 g0
    obtain ⟨b, hb, wb⟩ := at3 g1
    rw [hc] at hl
    match cs, hl with
    | [c0, c1], _ =>
      simp only [List.getElem?_cons_zero, Option.some.injEq] at ha
      simp only [List.getElem?_cons_succ, List.getElem?_cons_zero, Option.some.injEq] at hb
      subst ha hb
      exact ⟨[a, b], rfl, rfl, fun y hy => by simp at hy; rcases hy with rfl | rfl <;> assumption⟩
theorem el92 (n : Nat) (cs : List Value) (x : DataW H × List MemPlace) (h : DataW.trod enc TP W 0 (fun _ => true) true n 92 cs = some x) : ∃ ms : List Int, cs = ms.map (fun m => Value.int .i64 m) ∧ ms.length = 2 ∧ ∀ m ∈ ms, inR m = true :=
  two_struct Go.Proofs.Try.underlying92 cells92 ⟨rfl, rfl⟩ ⟨rfl, rfl⟩ h
theorem four_struct {e n : Nat} {f0 f1 f2 f3 : Field} {cs : List Value} {x : DataW H × List MemPlace} (he : TP.underlying e = some (.struct #[f0, f1, f2, f3])) (hc : TP.cellsOf e = 5) (h0 : f0.type = 3 ∧ f0.offset = 0) (h1 : f1.type = 3 ∧ f1.offset = 1) (h2 : f2.type = 56 ∧ f2.offset = 2) (h3 : f3.type = 3 ∧ f3.offset = 4)
    (h : DataW.trod enc TP W 0 (fun _ => true) true n e cs = some x) : ∃ ms : List Int, cs = ms.map (fun m => Value.int .i64 m) ∧ ms.length = 5 ∧ ∀ m ∈ ms, inR m = true := by
  obtain ⟨xs, n', _, _, hl, hxs, hf⟩ := DataW.trod_struct he h
  have hxs : xs.length = 4 := hxs
  match xs, hxs with
  | [y0, y1, y2, y3], _ =>
    have g0 := hf 0 f0 rfl
    have g1 := hf 1 f1 rfl
    have g2 := hf 2 f2 rfl
    have g3 := hf 3 f3 rfl
    rw [h0.1, h0.2, cells3] at g0
    rw [h1.1, h1.2, cells3] at g1
    rw [h2.1, h2.2, cells56] at g2
    rw [h3.1, h3.2, cells3] at g3
    obtain ⟨a, ha, wa⟩ := at3 g0
    obtain ⟨b, hb, wb⟩ := at3 g1
    obtain ⟨ms, k1, k2, k3⟩ := two_struct Go.Proofs.Try.underlying56 cells56 ⟨rfl, rfl⟩ ⟨rfl, rfl⟩ g2
    obtain ⟨c, hc', wc⟩ := at3 g3
    rw [hc] at hl
    match cs, hl, ms, k2 with
    | [c0, c1, c2, c3, c4], _, [m0, m1], _ =>
      simp at ha hb hc' k1
      obtain ⟨rfl, rfl⟩ := k1
      subst ha hb hc'
      exact ⟨[a, b, m0, m1, c], rfl, rfl, fun y hy => by
        simp at hy
        rcases hy with rfl | rfl | rfl | rfl | rfl
        · exact wa
        · exact wb
        · exact k3 _ (by simp)
        · exact k3 _ (by simp)
        · exact wc⟩
theorem el78 (n : Nat) (cs : List Value) (x : DataW H × List MemPlace) (h : DataW.trod enc TP W 0 (fun _ => true) true n 78 cs = some x) : ∃ ms : List Int, cs = ms.map (fun m => Value.int .i64 m) ∧ ms.length = 5 ∧ ∀ m ∈ ms, inR m = true :=
  four_struct Go.Proofs.Try.underlying78 cells78 ⟨rfl, rfl⟩ ⟨rfl, rfl⟩ ⟨rfl, rfl⟩ ⟨rfl, rfl⟩ h
theorem sl_at {t j n : Nat} {cs : List Value} {x : DataW H × List MemPlace} (h : DataW.trod enc TP W 0 (fun _ => true) true n t ((cs.drop j).take 1) = some x) (hj : j < cs.length) : ∃ v, cs[j]? = some v ∧ DataW.trod enc TP W 0 (fun _ => true) true n t [v] = some x := by
  refine ⟨cs[j], List.getElem?_eq_getElem hj, ?_⟩
  rw [List.drop_eq_getElem_cons hj] at h
  exact h
def AccIn (a : Acc) : Prop := (inR a.last = true ∧ inR a.interest = true ∧ inR a.bond = true ∧ inR a.purse = true) ∧ (∀ r ∈ a.rates, inR r.day = true ∧ inR r.pence = true) ∧ ∀ e ∈ a.entries, inR e.kind = true ∧ inR e.day = true ∧ inR e.lo = true ∧ inR e.hi = true ∧ inR e.pence = true
def mkR (l : List Int) : Rate := ⟨l.getD 0 0, l.getD 1 0⟩
def mkE (l : List Int) : Entry := ⟨l.getD 0 0, l.getD 1 0, l.getD 2 0, l.getD 3 0, l.getD 4 0⟩
theorem encR_mk {l : List Int} (h : l.length = 2) : encR (mkR l) = l.map iv := by
  match l, h with
  | [a, b], _ => rfl
theorem encE_mk {l : List Int} (h : l.length = 5) : encE (mkE l) = l.map iv := by
  match l, h with
  | [a, b, c, d, e], _ => rfl
theorem six_struct {e n : Nat} {f0 f1 f2 f3 f4 f5 : Field} {cs : List Value} {x : DataW H × List MemPlace} (he : TP.underlying e = some (.struct #[f0, f1, f2, f3, f4, f5])) (hc : TP.cellsOf e = 6) (h0 : f0.type = 3 ∧ f0.offset = 0) (h1 : f1.type = 3 ∧ f1.offset = 1) (h2 : f2.type = 3 ∧ f2.offset = 2) (h3 : f3.type = 3 ∧ f3.offset = 3) (h4 : f4.type = 22 ∧ f4.offset = 4) (h5 : f5.type = 23 ∧ f5.offset = 5)
    (hs4 : ∀ b len cap, cs[4]? = some (.slice (some b) len cap) → b.spot = none) (hs5 : ∀ b len cap, cs[5]? = some (.slice (some b) len cap) → b.spot = none)
    (h : DataW.trod enc TP W 0 (fun _ => true) true n e cs = some x) : ∃ a : Acc, AccIn a ∧ ∀ θ, ARel θ (fun _ => False) W (avA a) (.agg cs.toArray) := by
  obtain ⟨xs, n', _, _, hl, hxs, hf⟩ := DataW.trod_struct he h
  have hxs : xs.length = 6 := hxs
  match xs, hxs with
  | [y0, y1, y2, y3, y4, y5], _ =>
    have g0 := hf 0 f0 rfl
    have g1 := hf 1 f1 rfl
    have g2 := hf 2 f2 rfl
    have g3 := hf 3 f3 rfl
    have g4 := hf 4 f4 rfl
    have g5 := hf 5 f5 rfl
    rw [h0.1, h0.2, cells3] at g0
    rw [h1.1, h1.2, cells3] at g1
    rw [h2.1, h2.2, cells3] at g2
    rw [h3.1, h3.2, cells3] at g3
    rw [h4.1, h4.2, cells22] at g4
    rw [h5.1, h5.2, cells23] at g5
    obtain ⟨a, ha, wa⟩ := at3 g0
    obtain ⟨b, hb, wb⟩ := at3 g1
    obtain ⟨c, hc', wc⟩ := at3 g2
    obtain ⟨d, hd, wd⟩ := at3 g3
    rw [hc] at hl
    obtain ⟨v4, hv4, k4⟩ := sl_at g4 (by omega)
    obtain ⟨v5, hv5, k5⟩ := sl_at g5 (by omega)
    obtain ⟨rs, r1, v4', r2, r3⟩ := open_recs Go.Proofs.Try.underlying22 cells92 el92 k4 (fun b len cap e => hs4 b len cap (by rw [hv4, List.head_eq_of_cons_eq e]))
    obtain ⟨es, e1, v5', e2, e3⟩ := open_recs Go.Proofs.Try.underlying23 cells78 el78 k5 (fun b len cap e => hs5 b len cap (by rw [hv5, List.head_eq_of_cons_eq e]))
    have r2 := List.head_eq_of_cons_eq r2
    have e2 := List.head_eq_of_cons_eq e2
    subst r2 e2
    match cs, hl with
    | [c0, c1, c2, c3, c4, c5], _ =>
      simp at ha hb hc' hd hv4 hv5
      subst ha hb hc' hd hv4 hv5
      have hrs : (rs.map mkR).map encR = rs.map fun r => r.map iv := by
        rw [List.map_map]; exact List.map_congr_left fun r hr => encR_mk (r1 r hr).1
      have hes : (es.map mkE).map encE = es.map fun r => r.map iv := by
        rw [List.map_map]; exact List.map_congr_left fun r hr => encE_mk (e1 r hr).1
      refine ⟨⟨a, b, c, d, rs.map mkR, es.map mkE⟩, ⟨⟨wa, wb, wc, wd⟩, fun r hr => ?_, fun e he => ?_⟩, fun θ => .agg _ _ rfl (fun i hi => ?_) (fun i x hx => ?_)⟩
      · obtain ⟨l, hl, rfl⟩ := List.mem_map.1 hr
        obtain ⟨h1, h2⟩ := r1 l hl
        match l, h1 with
        | [p, q], _ => exact ⟨h2 _ (by simp [mkR]), h2 _ (by simp [mkR])⟩
      · obtain ⟨l, hl, rfl⟩ := List.mem_map.1 he
        obtain ⟨h1, h2⟩ := e1 l hl
        match l, h1 with
        | [p, q, r, s, u], _ => exact ⟨h2 _ (by simp [mkE]), h2 _ (by simp [mkE]), h2 _ (by simp [mkE]), h2 _ (by simp [mkE]), h2 _ (by simp [mkE])⟩
      · have hr := r3.oneCell
        have he := e3.oneCell
        match i, hi with
        | 0, _ => rfl
        | 1, _ => rfl
        | 2, _ => rfl
        | 3, _ => rfl
        | 4, _ => exact hr
        | 5, _ => exact he
      · match i, hx with
        | 0, hx => cases hx; exact .p _ _ (.val _ rfl)
        | 1, hx => cases hx; exact .p _ _ (.val _ rfl)
        | 2, hx => cases hx; exact .p _ _ (.val _ rfl)
        | 3, hx => cases hx; exact .p _ _ (.val _ rfl)
        | 4, hx => cases hx; dsimp only; rw [hrs]; exact .p _ _ r3
        | 5, hx => cases hx; dsimp only; rw [hes]; exact .p _ _ e3
theorem types25 : TP.cellTypes TP.depth 25 = some [3, 3, 3, 3, 22, 23] := by kernel_rfl
theorem open_acc {base : Nat} {v : Value} {d : DataW H} {p : List MemPlace} (hv : Value.okWide TP W .any base 25 v) (h : DataW.Trod enc TP W 0 (fun _ => true) true 25 v d p) : ∃ a : Acc, AccIn a ∧ ∀ θ, ARel θ (fun _ => False) W (avA a) v := by
  simp only [Value.okWide, Go.Proofs.Try.underlying25] at hv
  obtain ⟨cs, rfl, _, ts, hts, _, hall⟩ := hv
  rw [types25] at hts
  cases hts
  obtain ⟨n, hn⟩ := h
  obtain ⟨l⟩ := cs
  refine six_struct Go.Proofs.Try.underlying25 cells25 ⟨rfl, rfl⟩ ⟨rfl, rfl⟩ ⟨rfl, rfl⟩ ⟨rfl, rfl⟩ ⟨rfl, rfl⟩ ⟨rfl, rfl⟩ (fun b len cap hb => ?_) (fun b len cap hb => ?_) hn
  · obtain ⟨u, hu, hok⟩ := hall 4 _ (by simpa using hb)
    simp at hu; subst hu
    simp only [Go.Proofs.Try.underlying22, Cell.okWide, Cell.ok, World.has] at hok
    exact hok.2.2.2.1
  · obtain ⟨u, hu, hok⟩ := hall 5 _ (by simpa using hb)
    simp at hu; subst hu
    simp only [Go.Proofs.Try.underlying23, Cell.okWide, Cell.ok, World.has] at hok
    exact hok.2.2.2.1
end
end AM.Try
end
/- The law of plays. -/
section
namespace AM.Try
open Go AM AM.Duty
open Nat renaming reduceLT → sA, reduceAdd → sB, reduceMul → sC, reduceSub → sD, reduceLeDiff → sE, reduceEqDiff → sF, reduceBEq → sG
open Int renaming reduceAdd → sH, reduceSub → sI, reduceMul → sJ, reduceLT → sK, reduceLE → sL, reduceNeg → sM, reduceToNat → sN, reduceEq → sO
set_option maxHeartbeats 8000000
set_option maxRecDepth 100000
theorem c24 (a : Acc) (hl1 : a.rates.length < 1000000) (hl2 : a.entries.length < 1000000) : PCall Go.Proofs.Try.prog 24 [avA a] (i64 (faultS a)) := by
  refine pcall_mk (v := []) (q := []) (N := 5) (rs := [.tmp 2]) Go.Proofs.Try.func24 rfl rfl rfl rfl rfl ?_
  refine awp_seq_k fun K1 hK1 => ?_
  refine awp_ops ?_
  simp (disch := omega) only [amL, sA, ↓reduceIte]
  refine hK1 _ ?_
  refine awp_seq_k fun K2 hK2 => ?_
  refine awp_ops ?_
  simp (disch := omega) only [amL, amT, sA, sB, sF, ↓reduceIte]
  repeat' first | (refine EC_intro (by kernel_rfl) rfl (c61 a hl1 hl2) (by first | exact .inl rfl | exact .inr (.inl rfl)) ?_ ; simp (disch := omega) only [amL, sA, ↓reduceIte])
  refine hK2 _ ?_
  refine awp_ret ?_
  try simp (disch := omega) only [amL, ↓reduceIte]
  skip
theorem debts_len {a : Acc} {t paid : List Int} : ∀ {c day : Nat} {w : Wk}, (debtsF a t paid c day w).1.length = c
  | 0, _, _ => rfl
  | c + 1, day, w => by simp only [debtsF, List.length_cons, debts_len]
theorem playA_eq (a : Acc) (t : List Int) : playA a t = if faultS a = 0 then if listedS a.entries t = true then if (debtsS a t []).2 = true then .tup [isl (debtsS a t []).1, i64 0] else .tup [nilS, i64 11] else .tup [nilS, i64 2] else .tup [nilS, i64 (faultS a)] := by
  unfold playA
  split
  · rename_i hf
    obtain ⟨h1, h2⟩ := playS_ask hf t
    rw [listed_eq, h1]
    split
    · split
      · rename_i h; rw [h2 h]
      · rfl
    · rfl
  · rfl
theorem in_of {a : Acc} (h : AccIn a) : ∀ e ∈ a.entries, inR e.lo = true ∧ inR e.hi = true := fun e he => ⟨(h.2.2 e he).2.2.1, (h.2.2 e he).2.2.2.1⟩
end AM.Try
end
/- The laws' conditions; the reference: truths. -/
section
namespace AM.Try
open Go AM AM.Duty
open Nat renaming reduceLT → sA, reduceAdd → sB, reduceMul → sC, reduceSub → sD, reduceLeDiff → sE, reduceEqDiff → sF, reduceBEq → sG
open Int renaming reduceAdd → sH, reduceSub → sI, reduceMul → sJ, reduceLT → sK, reduceLE → sL, reduceNeg → sM, reduceToNat → sN, reduceEq → sO
set_option maxHeartbeats 8000000
set_option maxRecDepth 100000
def thinS (a : Acc) : Bool := decide (a.rates.length ≤ 7) && decide (a.entries.length ≤ 11)
theorem c19t (a : Acc) : PCall Go.Proofs.Try.prog 19 [avA a] (bl (thinS a)) := c19 a
theorem thin_len {a : Acc} (h : thinS a = true) : a.rates.length ≤ 7 ∧ a.entries.length ≤ 11 := by simpa [thinS] using h
end AM.Try
end
/- The reference: the bounds of a day. -/
section
namespace AM.Try
open Go AM AM.Duty
open Nat renaming reduceLT → sA, reduceAdd → sB, reduceMul → sC, reduceSub → sD, reduceLeDiff → sE, reduceEqDiff → sF, reduceBEq → sG
open Int renaming reduceAdd → sH, reduceSub → sI, reduceMul → sJ, reduceLT → sK, reduceLE → sL, reduceNeg → sM, reduceToNat → sN, reduceEq → sO
set_option maxHeartbeats 8000000
set_option maxRecDepth 100000
def debtOn (a : Acc) (day : Nat) (t : List Int) : Int := (debtsS a t []).1.getD day 0
theorem debts_full {a : Acc} (t : List Int) (paid : List Int) : (debtsS a t paid).1.length = (a.last + 1).toNat := by unfold debtsS; rw [debts_len]
end AM.Try
end
/- Plain laws: the program's truths are the reference's. -/
section
namespace AM.Try
open Go AM AM.Duty
open Nat renaming reduceLT → sA, reduceAdd → sB, reduceMul → sC, reduceSub → sD, reduceLeDiff → sE, reduceEqDiff → sF, reduceBEq → sG
open Int renaming reduceAdd → sH, reduceSub → sI, reduceMul → sJ, reduceLT → sK, reduceLE → sL, reduceNeg → sM, reduceToNat → sN, reduceEq → sO
theorem nth_listed : ∀ {es : List Entry} {n : Int}, (∀ e ∈ es, e.lo ≤ e.hi) → listedP es (nthS es n) = true
  | [], _, _ => rfl
  | e :: es, n, h => by
    have h1 := h e (by simp)
    have h3 := nth_listed (es := es) (n := n / (e.hi - e.lo + 1)) fun x hx => h x (by simp [hx])
    simp only [nthS, listedP, h3, Bool.and_true, inB, Bool.and_eq_true, decide_eq_true_eq]
    have h2 := mod_bound (m := n) (s := e.hi - e.lo + 1) (by omega)
    omega
theorem lo_le {a : Acc} (hf : faultS a = 0) : ∀ e ∈ a.entries, e.lo ≤ e.hi := fun e he => (isEntry_small (List.all_eq_true.1 (fault_zero hf).2.2.2.2.1 e he)).2.1
end AM.Try
end
/- Plain laws: bounds and whether the bond is kept, of the same truths. -/
section
namespace AM.Try
open Go AM AM.Duty
open Nat renaming reduceLT → sA, reduceAdd → sB, reduceMul → sC, reduceSub → sD, reduceLeDiff → sE, reduceEqDiff → sF, reduceBEq → sG
open Int renaming reduceAdd → sH, reduceSub → sI, reduceMul → sJ, reduceLT → sK, reduceLE → sL, reduceNeg → sM, reduceToNat → sN, reduceEq → sO
theorem last_in {a : Acc} (hf : faultS a = 0) : 0 ≤ a.last ∧ a.last ≤ 11 := by
  obtain ⟨_, _, z3, _, _, _⟩ := fault_zero hf
  simp only [inB, Bool.and_eq_true, decide_eq_true_eq] at z3
  omega
end AM.Try
end
/- The laws' own plays. -/
section
namespace AM.Try
open Go AM AM.Duty
open Nat renaming reduceLT → sA, reduceAdd → sB, reduceMul → sC, reduceSub → sD, reduceLeDiff → sE, reduceEqDiff → sF, reduceBEq → sG
open Int renaming reduceAdd → sH, reduceSub → sI, reduceMul → sJ, reduceLT → sK, reduceLE → sL, reduceNeg → sM, reduceToNat → sN, reduceEq → sO
set_option maxHeartbeats 8000000
set_option maxRecDepth 100000
def readyS (a : Acc) : Bool := thinS a && decide (faultS a = 0)
theorem c46 (a : Acc) : PCall Go.Proofs.Try.prog 46 [avA a] (bl (readyS a)) := by
  refine pcall_mk (v := []) (q := []) (N := 10) (rs := [.tmp 2]) Go.Proofs.Try.func46 rfl rfl rfl rfl rfl ?_
  cases hth : thinS a <;> by_cases hf : faultS a = 0
  all_goals try obtain ⟨hl1, hl2⟩ := thin_len hth
  all_goals
    refine awp_seq_k fun K1 hK1 => ?_
    refine awp_ops ?_
    simp (disch := omega) only [amL, sA, ↓reduceIte]
    refine hK1 _ ?_
    refine awp_seq_k fun K2 hK2 => ?_
    refine awp_ops ?_
    simp (disch := omega) only [amL, amT, sA, sB, sF, ↓reduceIte]
    repeat' first | (refine EG_dec (fun h => ?_) (fun h => ?_) <;> simp (disch := omega) only [h, ne_eq, hth, hf, amL, amT, sA, sB, sC, sD, sE, sF, sG, sH, sI, sJ, sK, sL, sM, sN, sO, ↓reduceIte, reduceCtorEq]) | (refine EG_cases (fun h => ?_) (fun h => ?_) <;> simp (disch := omega) only [h, ne_eq, hth, hf, amL, amT, sA, sB, sC, sD, sE, sF, sG, sH, sI, sJ, sK, sL, sM, sN, sO, ↓reduceIte, reduceCtorEq]) | (refine EC_intro (by kernel_rfl) rfl (c19t a) (by first | exact .inl rfl | exact .inr (.inl rfl)) ?_ ; simp (disch := omega) only [hth, amL, amT, sA, sB, sF, ↓reduceIte]) | (refine EC_intro (by kernel_rfl) rfl (c24 a (by omega) (by omega)) (by first | exact .inl rfl | exact .inr (.inl rfl)) ?_ ; simp (disch := omega) only [hf, amL, amT, sA, sF, ↓reduceIte])
    all_goals
     skip
     refine hK2 _ ?_
     refine awp_ret ?_
     try simp (disch := omega) only [amL, ↓reduceIte]
     all_goals first | (simp [readyS, hth, hf]; done) | (omega)
def oc4R (x y z w : Option AV) : Option AV := match x, y, z, w with | some a, some b, some c, some d => some (.tup [a, b, c, d]) | _, _, _, _ => none
theorem resVars_4 {P : Program} {s : St} {x y z w : ResultVar} : (resVars P s [x, y, z, w]).map resOf = oc4R (resVar P s x) (resVar P s y) (resVar P s z) (resVar P s w) := by
  simp only [resVars]
  cases resVar P s x <;> cases resVar P s y <;> cases resVar P s z <;> cases resVar P s w <;> rfl
theorem oc4R_some {x y z w : AV} : oc4R (some x) (some y) (some z) (some w) = some (.tup [x, y, z, w]) := rfl
def unitsN (a : Acc) (n : Int) : List Int := nthS a.entries (n % sizes a.entries)
def playN (a : Acc) (n : Int) : AV := .tup [isl (unitsN a n), if isTruth a (unitsN a n) = true then isl (debtsS a (unitsN a n) []).1 else nilS, bl (isTruth a (unitsN a n)), bl true]
theorem sizes_pos {a : Acc} (hf : faultS a = 0) : 1 ≤ sizes a.entries := by
  have h := (sizes_lt (valid_small hf) (Nat.le_refl _)).1
  rwa [List.take_length] at h
theorem c47 (a : Acc) (n : Int) (hf : faultS a = 0) (hth : thinS a = true) (hin : AccIn a) (h0 : 0 ≤ n) (_ : n ≤ 1000000) : PCall Go.Proofs.Try.prog 47 [avA a, i64 n] (playN a n) := by
  have hp : (playN a n).isP = true := by unfold playN; split <;> rfl
  refine pcall_mk (v := []) (q := []) (N := 59) (rs := [.tmp 4, .tmp 5, .tmp 6, .tmp 7]) Go.Proofs.Try.func47 rfl rfl rfl rfl hp ?_
  obtain ⟨hl1, hl2⟩ := thin_len hth
  have hin' := in_of hin
  have hsm := valid_small hf
  have hsz := sizes_nat hf
  have hs1 := sizes_pos hf
  have hmo := mod_bound (m := n) hs1
  have htl : (unitsN a n).length = a.entries.length := nth_len _ _
  have hls : listedS a.entries (unitsN a n) = true := by rw [← listed_eq]; exact nth_listed (lo_le hf)
  have hla := last_in hf
  have hm : ((a.last + 1).toNat : Int) = a.last + 1 := Int.toNat_of_nonneg (by omega)
  have hdl := debts_full (a := a) (unitsN a n) []
  have pA := playA_eq a (unitsN a n)
  have c73n : PCall Go.Proofs.Try.prog 73 [avA a, i64 (n % sizes a.entries)] (isl (unitsN a n)) := c73 a _ hsm hmo.1 (by omega)
  cases hd : (debtsS a (unitsN a n) []).2
  all_goals
    have hpn : playN a n = .tup [isl (unitsN a n), if (debtsS a (unitsN a n) []).2 = true then isl (debtsS a (unitsN a n) []).1 else nilS, bl (debtsS a (unitsN a n) []).2, bl true] := rfl
    rw [hd] at hpn
    rw [hpn]
  all_goals
    refine awp_seq_k fun K1 hK1 => ?_
    refine awp_ops ?_
    simp (disch := omega) only [amL, sA, sB, ↓reduceIte]
    refine hK1 _ ?_
    refine awp_seq_k fun K2 hK2 => ?_
    refine awp_any2 (by kernel_rfl) (by kernel_rfl) ?_
    simp (disch := omega) only [amL, amT, sA, sB, sF, ↓reduceIte, reduceCtorEq]
    repeat' first | (refine EC_intro (by kernel_rfl) rfl (c50 a hsm) (by first | exact .inl rfl | exact .inr (.inl rfl)) ?_ ; simp (disch := omega) only [amL, amT, sA, sF, ↓reduceIte]) | (refine EC_intro (by kernel_rfl) rfl (c73n) (by first | exact .inl rfl | exact .inr (.inl rfl)) ?_ ; simp (disch := omega) only [amL, sA, ↓reduceIte])
    refine hK2 _ ?_
    refine awp_seq_k fun K3 hK3 => ?_
    refine awp_ops ?_
    simp (disch := omega) only [amL, amT, sA, sB, sF, ↓reduceIte]
    repeat' first | (refine EC_intro (by kernel_rfl) rfl (PCall.of_nil 2 rfl (c27 a _ [] (fit_nth hf _) (by decide))) (by first | exact .inl rfl | exact .inr (.inl rfl)) ?_ ; simp (disch := omega) only [hd, amL, sA, sF, ↓reduceIte])
    refine hK3 _ ?_
    refine awp_seq_k fun K4 hK4 => ?_
    refine awp_ops ?_
    simp (disch := omega) only [amL, amT, sA, sB, sF, ↓reduceIte]
    repeat' first | (refine EC_intro (by kernel_rfl) rfl (c22 a (by omega) (by omega)) (by first | exact .inl rfl | exact .inr (.inl rfl)) ?_ ; simp (disch := omega) only [amL, sA, sF, ↓reduceIte]) | (refine EC_intro (by kernel_rfl) rfl (c23 _ (by omega)) (by first | exact .inl rfl | exact .inr (.inl rfl)) ?_ ; simp (disch := omega) only [amL, sF, ↓reduceIte]) | (refine EC_intro (by kernel_rfl) rfl (c21 a (unitsN a n) (by omega) (by omega) (by omega) hin') (by first | exact .inl rfl | exact .inr (.inl rfl)) ?_ ; simp (disch := omega) only [pA, hf, hls, hd, amL, sA, sF, ↓reduceIte])
    refine hK4 _ ?_
    refine awp_seq_k fun K5 hK5 => ?_
    refine awp_ops ?_
    simp (disch := omega) only [hm, hdl, amL, amT, sA, sF, sO, ↓reduceIte, reduceCtorEq]
    repeat' first | (refine EG_dec (fun h => ?_) (fun h => ?_) <;> simp (disch := omega) only [h, pA, hf, hls, hd, ne_eq, hm, resVars_4, oc4R_some, hdl, amL, amT, sA, sB, sC, sD, sE, sF, sG, sH, sI, sJ, sK, sL, sM, sN, sO, ↓reduceIte, reduceCtorEq]) | (refine EG_cases (fun h => ?_) (fun h => ?_) <;> simp (disch := omega) only [h, pA, hf, hls, hd, ne_eq, hm, resVars_4, oc4R_some, hdl, amL, amT, sA, sB, sC, sD, sE, sF, sG, sH, sI, sJ, sK, sL, sM, sN, sO, ↓reduceIte, reduceCtorEq])
    all_goals
     skip
     refine hK5 _ ?_
     refine awp_ret ?_
     try simp (disch := omega) only [resVars_4, oc4R_some, amL, sF, ↓reduceIte]
     all_goals first | rfl | (omega)
end AM.Try
end
/- The abstract machine, part 46: functions whose result is a new struct. -/
section
namespace AM
open Go
def viewFL (os : Nat → Option AO) : List AV → Option (List AV)
  | [] => some []
  | x :: r => match viewF 0 os x, viewFL os r with | some y, some ys => some (y :: ys) | _, _ => none
theorem viewFL_nil {os : Nat → Option AO} : viewFL os [] = some [] := rfl
theorem viewFL_cons {os : Nat → Option AO} {x y : AV} {r ys : List AV} (h1 : viewF 0 os x = some y) (h2 : viewFL os r = some ys) : viewFL os (x :: r) = some (y :: ys) := by simp only [viewFL, h1, h2]
theorem viewFL_get {os : Nat → Option AO} : ∀ {l l' : List AV}, viewFL os l = some l' → l'.length = l.length ∧ ∀ (i : Nat) (y : AV), l'[i]? = some y → ∃ x, l[i]? = some x ∧ viewF 0 os x = some y
  | [], l', h => by simp only [viewFL, Option.some.injEq] at h; subst h; exact ⟨rfl, fun i y hy => by simp at hy⟩
  | x :: r, l', h => by
    simp only [viewFL] at h
    cases h1 : viewF 0 os x with
    | none => simp [h1] at h
    | some y =>
      cases h2 : viewFL os r with
      | none => simp [h1, h2] at h
      | some ys =>
        simp only [h1, h2, Option.some.injEq] at h
        subst h
        obtain ⟨h3, h4⟩ := viewFL_get h2
        refine ⟨by simp [h3], fun i z hz => ?_⟩
        cases i with
        | zero => simp at hz; subst hz; exact ⟨x, by simp, h1⟩
        | succ i => simpa using h4 i z (by simpa using hz)
def RetFC (P : Program) (i : Nat) (ty : TypeId) (res : AV) : AEx → St → Prop
  | .exit _, _ => False
  | _, s => ∃ n off g cs xs ys, s.t i = .ptr n off ∧ (tyOf P ty).agg = some g ∧ s.o n = some (.cells cs) ∧ takeCells g (tyOf P ty).sz (cs.drop off) = some (.agg xs) ∧ viewFL s.o xs = some ys ∧ res = .agg ys
theorem RetFC_ret {P : Program} {i : Nat} {ty : TypeId} {res : AV} {s : St} : RetFC P i ty res .ret s = ∃ n off g cs xs ys, s.t i = .ptr n off ∧ (tyOf P ty).agg = some g ∧ s.o n = some (.cells cs) ∧ takeCells g (tyOf P ty).sz (cs.drop off) = some (.agg xs) ∧ viewFL s.o xs = some ys ∧ res = .agg ys := rfl
theorem fcallc_mk {v q : List Nat} {P : Program} {f : FuncId} {fn : Func} {body : Code} {args : List AV} {res : AV} {N i : Nat} {ty : TypeId} (hf : P.funcs[f]? = some fn) (hb : fn.body = some body) (hN : fn.ntmps = N) (hi : fn.results.toList = [.cell i ty]) (hargs : args.all AV.isP = true) (hres : res.isP = true)
    (h : AWP P ⟨⟨none, fun _ => False⟩, 0, v, q⟩ N body ⟨T (ixs 0 args), O []⟩ (RetFC P i ty res)) : FCall P f args res := by
  subst hN
  rw [← init_ixs] at h
  refine ⟨hres, fun θ M w vs hM hsz hrel => ?_⟩
  refine calls_of_wp hf hb ((wpIn_wide (n := 0)).1 ?_)
  have hH : SRel 0 w.heap.size (fun _ => False) θ M w (Hp fun _ => none) a0 :=
    ⟨Nat.zero_le _, fun _ => .undef _, (fun n o hn => by cases hn), (fun n o hn => by cases hn), (fun n m hn => by cases hn), Nat.le_refl _, hM, ⟨fun _ => AV.lives_undef _, (fun m o hm => by cases hm)⟩⟩
  have h0 := hH.start (fn := fn) hsz hrel (fun i x hx => lives_isP _ (List.all_eq_true.1 hargs x (List.mem_of_getElem? hx)))
  refine wpIn_mono (h _ _ θ M w _ h0) ?_
  rintro e a' w' ⟨ae, st', rfl, hr, ⟨θ', M', hs', hk, ht, hm⟩, hd⟩
  have hoth : Others st' θ' (fun b => b < w.heap.size) := others_blk hs' (fun _ h => h) (fun _ h => h)
  have key : ∀ n off g cs xs ys, st'.t i = .ptr n off → (tyOf P ty).agg = some g → st'.o n = some (.cells cs) → takeCells g (tyOf P ty).sz (cs.drop off) = some (.agg xs) → viewFL st'.o xs = some ys → res = .agg ys →
      ∃ v, (results fn a'.tmps).run P w' = .ok v w' ∧ ∃ v', Ending.returned v = .returned v' ∧ ARel θ (fun b => b < w.heap.size) w' res v' ∧ Keeps (fun b => w.heap.size ≤ b) w w' := by
    intro n off g cs xs ys k1 k2 k3 k4 k5 k6
    have hv := rel_ptr (hs'.tm i) k1
    have hc := (cellsAt_obj hs' k3).drop off
    rw [Nat.zero_add] at hc
    obtain ⟨v, hrun, hrel⟩ := hc.load k2 k4
    have hvr : ARel θ' (fun b => b < w.heap.size) w' res v := by
      subst k6
      obtain ⟨hl, hg⟩ := viewFL_get k5
      cases hrel with
      | agg _ vs hs hone hr =>
        refine .agg ys vs (by rw [hl]; exact hs) (fun i hi => hone i (by rw [← hl]; exact hi)) (fun i z hz => ?_)
        obtain ⟨x, h1, h2⟩ := hg i z hz
        exact (viewF_rel hs' hoth (hr i x h1) h2).1
    have hrr : (results fn a'.tmps).run P w' = .ok v w' := by
      have hus' : (fn.results.mapM (resSem a'.tmps)).run P w' = .ok #[v] w' := by
        rw [Array.mapM_eq_mapM_toList, Sem.run_map, hi]
        simp [resSem, hv, asAddr, hrun]
      rw [results_eq]
      simp only [Sem.run_bind, hus', Result.andThen_ok, Sem.run_pure]
      rfl
    exact ⟨v, hrr, _, rfl, hvr.nameless θ hres, hk.mono (fun b hb => hb.elim id False.elim)⟩
  cases ae with
  | normal =>
    obtain ⟨n, off, g, cs, xs, ys, k1, k2, k3, k4, k5, k6⟩ := hr
    exact ⟨hd, key n off g cs xs ys k1 k2 k3 k4 k5 k6⟩
  | ret =>
    obtain ⟨n, off, g, cs, xs, ys, k1, k2, k3, k4, k5, k6⟩ := hr
    exact ⟨hd, key n off g cs xs ys k1 k2 k3 k4 k5 k6⟩
  | exit j => exact hr.elim
def viewT (os : Nat → Option AO) : AV → Option AV
  | .p (.val v) => some (.p (.val v))
  | x => viewF 0 os x
theorem viewT_own {os : Nat → Option AO} {n len k : Nat} {es : List (List PV)} (h : os n = some (.arr k es)) (h1 : len ≤ es.length) (h2 : (es.all fun e => e.all PV.isVal) = true) : viewT os (.own n len) = some (.p (.sl (es.take len))) := by
  unfold viewT viewF; simp only [h]; rw [if_pos ⟨h1, Nat.zero_le _, h2⟩]
theorem viewT_rel {N B : Nat} {S : Nat → Prop} {θ : Nat → Loc} {M M2 : Nat → Prop} {w : World} {st : St} {a : Act} (h : SRel N B S θ M w st a) (ho : Others st θ M2) {x y : AV} {v : Value} (hv : ARel θ M w x v) (hy : viewT st.o x = some y) : ARel θ M2 w y v ∧ y.isP = true := by
  unfold viewT at hy
  split at hy
  · cases hy
    cases hv with
    | p _ _ h => exact ⟨.p _ _ (h.isVal rfl _ _), rfl⟩
  · exact viewF_rel h ho hv hy
def RetFT (i j : Nat) (res : AV) : AEx → St → Prop
  | .exit _, _ => False
  | _, s => ∃ x y, viewT s.o (s.t i) = some x ∧ viewT s.o (s.t j) = some y ∧ res = .tup [x, y]
theorem RetFT_normal {i j : Nat} {res : AV} {s : St} : RetFT i j res .normal s = ∃ x y, viewT s.o (s.t i) = some x ∧ viewT s.o (s.t j) = some y ∧ res = .tup [x, y] := rfl
theorem RetFT_ret {i j : Nat} {res : AV} {s : St} : RetFT i j res .ret s = ∃ x y, viewT s.o (s.t i) = some x ∧ viewT s.o (s.t j) = some y ∧ res = .tup [x, y] := rfl
theorem fcallt_mk {v q : List Nat} {P : Program} {f : FuncId} {fn : Func} {body : Code} {args : List AV} {res : AV} {N i j : Nat} (hf : P.funcs[f]? = some fn) (hb : fn.body = some body) (hN : fn.ntmps = N) (hi : fn.results.toList = [.tmp i, .tmp j]) (hargs : args.all AV.isP = true) (hres : res.isP = true)
    (h : AWP P ⟨⟨none, fun _ => False⟩, 0, v, q⟩ N body ⟨T (ixs 0 args), O []⟩ (RetFT i j res)) : FCall P f args res := by
  subst hN
  rw [← init_ixs] at h
  refine ⟨hres, fun θ M w vs hM hsz hrel => ?_⟩
  refine calls_of_wp hf hb ((wpIn_wide (n := 0)).1 ?_)
  have hH : SRel 0 w.heap.size (fun _ => False) θ M w (Hp fun _ => none) a0 :=
    ⟨Nat.zero_le _, fun _ => .undef _, (fun n o hn => by cases hn), (fun n o hn => by cases hn), (fun n m hn => by cases hn), Nat.le_refl _, hM, ⟨fun _ => AV.lives_undef _, (fun m o hm => by cases hm)⟩⟩
  have h0 := hH.start (fn := fn) hsz hrel (fun i x hx => lives_isP _ (List.all_eq_true.1 hargs x (List.mem_of_getElem? hx)))
  refine wpIn_mono (h _ _ θ M w _ h0) ?_
  rintro e a' w' ⟨ae, st', rfl, hr, ⟨θ', M', hs', hk, ht, hm⟩, hd⟩
  have hoth : Others st' θ' (fun b => b < w.heap.size) := others_blk hs' (fun _ h => h) (fun _ h => h)
  have key : ∀ x y, viewT st'.o (st'.t i) = some x → viewT st'.o (st'.t j) = some y → res = .tup [x, y] →
      ∃ v, (results fn a'.tmps).run P w' = .ok v w' ∧ ∃ v', Ending.returned v = .returned v' ∧ ARel θ (fun b => b < w.heap.size) w' res v' ∧ Keeps (fun b => w.heap.size ≤ b) w w' := by
    intro x y k1 k2 k3
    have r1 := (viewT_rel hs' hoth (hs'.tm i) k1).1
    have r2 := (viewT_rel hs' hoth (hs'.tm j) k2).1
    have hvr : ARel θ' (fun b => b < w.heap.size) w' res (.tuple #[a'.tmps.getD i undef, a'.tmps.getD j undef]) := by
      subst k3
      refine .tup _ _ rfl (fun k z hz => ?_)
      match k, hz with
      | 0, hz => cases hz; exact r1
      | 1, hz => cases hz; exact r2
    have hrr : (results fn a'.tmps).run P w' = .ok (.tuple #[a'.tmps.getD i undef, a'.tmps.getD j undef]) w' := by
      have hus' : (fn.results.mapM (resSem a'.tmps)).run P w' = .ok #[a'.tmps.getD i undef, a'.tmps.getD j undef] w' := by
        rw [Array.mapM_eq_mapM_toList, Sem.run_map, hi]
        simp [resSem]
      rw [results_eq]
      simp only [Sem.run_bind, hus', Result.andThen_ok, Sem.run_pure]
      rfl
    exact ⟨_, hrr, _, rfl, hvr.nameless θ hres, hk.mono (fun b hb => hb.elim id False.elim)⟩
  cases ae with
  | normal =>
    obtain ⟨x, y, k1, k2, k3⟩ := hr
    exact ⟨hd, key x y k1 k2 k3⟩
  | ret =>
    obtain ⟨x, y, k1, k2, k3⟩ := hr
    exact ⟨hd, key x y k1 k2 k3⟩
  | exit j => exact hr.elim
end AM
end
/- The law's own copy of an account is new. -/
section
namespace AM.Try
open Go AM AM.Duty
open Nat renaming reduceLT → sA, reduceAdd → sB, reduceMul → sC, reduceSub → sD, reduceLeDiff → sE, reduceEqDiff → sF, reduceBEq → sG
open Int renaming reduceAdd → sH, reduceSub → sI, reduceMul → sJ, reduceLT → sK, reduceLE → sL, reduceNeg → sM, reduceToNat → sN, reduceEq → sO
set_option maxHeartbeats 8000000
set_option maxRecDepth 100000
theorem viewF_i {os : Nat → Option AO} {n : Int} : viewF 0 os (i64 n) = some (i64 n) := rfl
theorem encE_isVal (l : List Entry) : ((l.map encE).all fun e => e.all PV.isVal) = true := by
  rw [List.all_eq_true]
  intro x hx
  obtain ⟨n, _, rfl⟩ := List.mem_map.1 hx
  rfl
theorem encR_isVal (l : List Rate) : ((l.map encR).all fun e => e.all PV.isVal) = true := by
  rw [List.all_eq_true]
  intro x hx
  obtain ⟨n, _, rfl⟩ := List.mem_map.1 hx
  rfl
theorem c22f (a : Acc) (h1 : a.rates.length < 1000000) (h2 : a.entries.length < 1000000) : FCall Go.Proofs.Try.prog 22 [avA a] (avA a) := by
  refine fcallc_mk (v := []) (q := []) (N := 69) (i := 2) (ty := 35) Go.Proofs.Try.func22 rfl rfl rfl rfl rfl ?_
  refine awp_seq_k fun K1 hK1 => ?_
  refine awp_ops ?_
  simp (disch := omega) only [amL, amT, sA, sB, sF, ↓reduceIte]
  refine hK1 _ ?_
  refine awp_seq_k fun K2 hK2 => ?_
  refine awp_ops ?_
  simp (disch := omega) only [amL, amT, sA, sB, sE, sF, ↓reduceIte, reduceCtorEq]
  refine hK2 _ ?_
  refine awp_seq_k fun K3 hK3 => ?_
  refine awp_seq_k fun K4 hK4 => ?_
  refine awp_ops ?_
  simp (disch := omega) only [amL, sA]
  refine hK4 _ ?_
  refine awp_block ?_
  refine awp_adoptC' 39 2 3 4 (by decide) rfl rfl rfl ?_
  refine awp_loop_k (α := Nat) (fun k => ⟨T [(1, .ptr 1 0), (2, .ptr 2 0), (3, .ptr 3 0), (4, i64 k)], O [(1, .cells (cA a)), (2, .cells [i64 0, i64 0, i64 0, i64 0, .p (.val (.slice none 0 0)), .p (.val (.slice none 0 0))]), (3, .cells [i64 a.last, i64 a.interest, i64 a.bond, i64 a.purse, .own 39 k, .p (.val (.slice none 0 0))]), (39, .arr 2 ((a.rates.take k).map encR))]⟩) (fun k => a.rates.length - k) (fun k => k ≤ a.rates.length) 0 ?_ ?_ (fun k hx5 K5 hK5 => ?_)
  · simp
  · refine le_mk ?_ ?_ ?_ ?_ <;> (try simp (disch := omega) only [amL, sF, sG, ↓reduceIte])
  skip
  refine awp_seq_k fun K6 hK6 => ?_
  refine awp_seq_k fun K7 hK7 => ?_
  refine awp_ops ?_
  simp (disch := omega) only [amL, amT, sA, sF, ↓reduceIte, reduceCtorEq]
  refine hK7 _ ?_
  refine awp_cond rfl (fun h => ?_) (fun h => ?_)
  ·first
   | exact Bool.noConfusion h
   |skip
    try simp only [decide_eq_true_eq] at h
    refine awp_skip ?_
    refine hK6 _ ?_
    refine awp_seq_k fun K8 hK8 => ?_
    refine awp_block ?_
    refine awp_any2 (by kernel_rfl) (by kernel_rfl) ?_
    simp (disch := omega) only [encR_getD, amL, amT, sA, sB, sC, sE, sF, ↓reduceIte, reduceCtorEq]
    refine hK8 _ ?_
    refine awp_ops ?_
    simp (disch := omega) only [amL, amT, sA, sF, ↓reduceIte]
    refine hK5 (k+1) _ ?_ ?_ (le_mk ?_ ?_ ?_ ?_)
    all_goals (try simp (disch := omega) only [amL, sF, sG, ↓reduceIte])
    all_goals first | omega | rw [take_snoc encR default (by omega)]
  ·first
   | exact Bool.noConfusion h
   |skip
    try simp only [decide_eq_false_iff_not] at h
    refine awp_exit ?_
    refine hK3 _ ?_
    refine awp_seq_k fun K9 hK9 => ?_
    refine awp_seq_k fun K10 hK10 => ?_
    refine awp_ops ?_
    simp (disch := omega) only [amL, sA]
    refine hK10 _ ?_
    refine awp_block ?_
    refine awp_adoptC' 66 5 3 5 (by decide) rfl rfl rfl ?_
    refine awp_loop_k (α := Nat) (fun j => ⟨T [(2, .ptr 2 0), (1, .ptr 1 0), (3, .ptr 3 0), (5, i64 j)], O [(1, .cells (cA a)), (2, .cells [i64 0, i64 0, i64 0, i64 0, .p (.val (.slice none 0 0)), .p (.val (.slice none 0 0))]), (3, .cells [i64 a.last, i64 a.interest, i64 a.bond, i64 a.purse, .own 39 k, .own 66 j]), (39, .arr 2 ((a.rates.take k).map encR)), (66, .arr 5 ((a.entries.take j).map encE))]⟩) (fun j => a.entries.length - j) (fun j => j ≤ a.entries.length) 0 ?_ ?_ (fun j hx11 K11 hK11 => ?_)
    · simp
    · refine le_mk ?_ ?_ ?_ ?_ <;> (try simp (disch := omega) only [amL, sF, sG, ↓reduceIte])
    skip
    refine awp_seq_k fun K12 hK12 => ?_
    refine awp_seq_k fun K13 hK13 => ?_
    refine awp_ops ?_
    simp (disch := omega) only [amL, amT, sA, sF, ↓reduceIte, reduceCtorEq]
    refine hK13 _ ?_
    refine awp_cond rfl (fun h => ?_) (fun h => ?_)
    ·first
     | exact Bool.noConfusion h
     |skip
      try simp only [decide_eq_true_eq] at h
      refine awp_skip ?_
      refine hK12 _ ?_
      refine awp_seq_k fun K14 hK14 => ?_
      refine awp_block ?_
      refine awp_seq_k fun K15 hK15 => ?_
      refine awp_ops ?_
      simp (disch := omega) only [encE_getD, amL, amT, sA, sB, sF, ↓reduceIte, reduceCtorEq]
      refine hK15 _ ?_
      refine awp_any2 (by kernel_rfl) (by kernel_rfl) ?_
      simp (disch := omega) only [amL, amT, sA, sB, sE, sF, ↓reduceIte, reduceCtorEq]
      repeat' first | (refine EC_intro (by kernel_rfl) rfl (c35 _ _) (by first | exact .inl rfl | exact .inr (.inl rfl)) ?_ ; simp (disch := omega) only [amL, amT, sA, sB, sC, sE, sF, ↓reduceIte, reduceCtorEq])
      refine hK14 _ ?_
      refine awp_ops ?_
      simp (disch := omega) only [amL, amT, sA, sF, ↓reduceIte]
      refine hK11 (j+1) _ ?_ ?_ (le_mk ?_ ?_ ?_ ?_)
      all_goals (try simp (disch := omega) only [amL, sF, sG, ↓reduceIte])
      all_goals first | omega | rw [take_snoc encE default (by omega)]
    ·first
     | exact Bool.noConfusion h
     |skip
      try simp only [decide_eq_false_iff_not] at h
      refine awp_exit ?_
      refine hK9 _ ?_
      refine awp_seq_k fun K16 hK16 => ?_
      refine awp_ops ?_
      simp (disch := omega) only [amL, amT, sB, sF, ↓reduceIte]
      refine hK16 _ ?_
      refine awp_ret ?_
      try simp (disch := omega) only [encE_getD, encR_getD, amL, amT, sA, sB, sC, sD, sE, sF, sG, sH, sI, sJ, sK, sL, sM, sN, sO, ↓reduceIte, reduceCtorEq]
      (have e : k = a.rates.length := by omega); (have e2 : j = a.entries.length := by omega); subst e e2; rw [List.take_length, List.take_length]; rw [RetFC_ret]; refine ⟨2, 0, _, _, _, _, rfl, (by simp only [amT]; rfl), rfl, (by simp only [amT]; rfl), viewFL_cons viewF_i (viewFL_cons viewF_i (viewFL_cons viewF_i (viewFL_cons viewF_i (viewFL_cons (viewF_own rfl (by simp) (encR_isVal _)) (viewFL_cons (viewF_own rfl (by simp) (encE_isVal _)) viewFL_nil))))), ?_⟩; rw [List.take_of_length_le (by simp), List.take_of_length_le (by simp)]
end AM.Try
end
/- Plain laws: the search for the smallest set; bits. -/
section
namespace AM.Try
open Go AM AM.Duty
open Nat renaming reduceLT → sA, reduceAdd → sB, reduceMul → sC, reduceSub → sD, reduceLeDiff → sE, reduceEqDiff → sF, reduceBEq → sG
open Int renaming reduceAdd → sH, reduceSub → sI, reduceMul → sJ, reduceLT → sK, reduceLE → sL, reduceNeg → sM, reduceToNat → sN, reduceEq → sO
def bitsF : Nat → Nat → Nat → List Int
  | 0, _, _ => []
  | c + 1, p, n => if n % 2 = 1 then (p : Int) :: bitsF c (p + 1) (n / 2) else bitsF c (p + 1) (n / 2)
def bitsS (n : Nat) : List Int := bitsF 16 0 n
def woR : Nat → List Entry → List Entry
  | _, [] => []
  | n, e :: es => if n % 2 = 0 then e :: woR (n / 2) es else woR (n / 2) es
def withoutR (a : Acc) (n : Nat) : Acc := { a with entries := woR n a.entries }
theorem woF_congr {o o' : List Int} : ∀ {es : List Entry} {j : Nat}, (∀ i : Nat, j ≤ i → ((i : Int) ∈ o ↔ (i : Int) ∈ o')) → woF o j es = woF o' j es
  | [], j, _ => rfl
  | e :: es, j, h => by
    simp only [woF]
    have h1 := h j (Nat.le_refl _)
    have h2 := woF_congr (es := es) (j := j + 1) fun i hi => h i (by omega)
    by_cases hm : (j : Int) ∈ o
    · rw [if_pos hm, if_pos (h1.1 hm), h2]
    · rw [if_neg hm, if_neg (fun x => hm (h1.2 x)), h2]
theorem bitsF_low : ∀ {c p n : Nat} {x : Int}, x ∈ bitsF c p n → (p : Int) ≤ x
  | 0, _, _, _, h => by cases h
  | c + 1, p, n, x, h => by
    simp only [bitsF] at h
    split at h
    · rcases List.mem_cons.1 h with rfl | h
      · omega
      · have := bitsF_low h; omega
    · have := bitsF_low h; omega
theorem wo_bits : ∀ {es : List Entry} {c p n : Nat}, es.length ≤ c → woF (bitsF c p n) p es = woR n es
  | [], _, _, _, _ => rfl
  | e :: es, 0, p, n, h => by simp at h
  | e :: es, c + 1, p, n, h => by
    have ih := wo_bits (es := es) (c := c) (p := p + 1) (n := n / 2) (by simpa using h)
    simp only [woF, woR]
    by_cases hn : n % 2 = 1
    · have hb : bitsF (c + 1) p n = (p : Int) :: bitsF c (p + 1) (n / 2) := by simp only [bitsF]; rw [if_pos hn]
      rw [hb, if_pos (by simp), if_neg (by omega), ← ih]
      refine woF_congr fun i hi => ?_
      rw [List.mem_cons]
      exact ⟨fun h => h.resolve_left (by omega), .inr⟩
    · have hb : bitsF (c + 1) p n = bitsF c (p + 1) (n / 2) := by simp only [bitsF]; rw [if_neg hn]
      have hnm : ¬ (p : Int) ∈ bitsF c (p + 1) (n / 2) := fun h => by have := bitsF_low h; omega
      rw [hb, if_neg hnm, if_pos (by omega), ← ih]
theorem without_eq {a : Acc} (hl : a.entries.length ≤ 16) (n : Nat) : withoutP a (bitsS n) = withoutR a n := by
  unfold withoutP withoutR bitsS
  rw [wo_bits hl]
end AM.Try
end
/- The law of order. -/
section
namespace AM.Try
open Go AM AM.Duty
open Nat renaming reduceLT → sA, reduceAdd → sB, reduceMul → sC, reduceSub → sD, reduceLeDiff → sE, reduceEqDiff → sF, reduceBEq → sG
open Int renaming reduceAdd → sH, reduceSub → sI, reduceMul → sJ, reduceLT → sK, reduceLE → sL, reduceNeg → sM, reduceToNat → sN, reduceEq → sO
set_option maxHeartbeats 8000000
set_option maxRecDepth 100000
theorem valid_in {x : Acc} (hf : faultS x = 0) : ∀ e ∈ x.entries, inR e.lo = true ∧ inR e.hi = true := fun e he => by
  have h := isEntry_small (List.all_eq_true.1 (fault_zero hf).2.2.2.2.1 e he)
  simp only [inR, Bool.and_eq_true, decide_eq_true_eq]; omega
end AM.Try
end
/- The reference: bits. -/
section
namespace AM.Try
open Go AM AM.Duty
open Nat renaming reduceLT → sA, reduceAdd → sB, reduceMul → sC, reduceSub → sD, reduceLeDiff → sE, reduceEqDiff → sF, reduceBEq → sG
open Int renaming reduceAdd → sH, reduceSub → sI, reduceMul → sJ, reduceLT → sK, reduceLE → sL, reduceNeg → sM, reduceToNat → sN, reduceEq → sO
set_option maxHeartbeats 8000000
set_option maxRecDepth 100000
theorem wrapU {x : Int} (h1 : 0 ≤ x) (h2 : x < 9223372036854775808) : IntKind.wrap .u64 x = x := by
  simp only [IntKind.wrap, IntKind.signed, IntKind.bits]
  simp; omega
theorem shrN {n p : Nat} (h : p ≤ 16) : ((n : Int).fdiv (2 ^ (min p IntKind.i64.bits)) : Int) = ((n / 2 ^ p : Nat) : Int) := by
  have e : (2 : Int) ^ p = ((2 ^ p : Nat) : Int) := by rw [Int.natCast_pow]; rfl
  rw [Nat.min_eq_left (by simp only [IntKind.bits]; omega), e, Int.fdiv_eq_ediv_of_nonneg _ (Int.natCast_nonneg _), Int.natCast_ediv]
end AM.Try
end
/- The reference: the fewest payments. -/
section
namespace AM.Try
open Go AM AM.Duty
open Nat renaming reduceLT → sA, reduceAdd → sB, reduceMul → sC, reduceSub → sD, reduceLeDiff → sE, reduceEqDiff → sF, reduceBEq → sG
open Int renaming reduceAdd → sH, reduceSub → sI, reduceMul → sJ, reduceLT → sK, reduceLE → sL, reduceNeg → sM, reduceToNat → sN, reduceEq → sO
set_option maxHeartbeats 8000000
set_option maxRecDepth 100000
theorem shl1 {n : Nat} (h : n ≤ 16) : ((1 : Int) * 2 ^ (min n IntKind.i64.bits) : Int) = ((2 ^ n : Nat) : Int) := by
  have e : (2 : Int) ^ n = ((2 ^ n : Nat) : Int) := by rw [Int.natCast_pow]; rfl
  rw [Nat.min_eq_left (by simp only [IntKind.bits]; omega), e, Int.one_mul]
end AM.Try
end
/- The reference: without some entries; the smallest set. -/
section
namespace AM.Try
open Go AM AM.Duty
open Nat renaming reduceLT → sA, reduceAdd → sB, reduceMul → sC, reduceSub → sD, reduceLeDiff → sE, reduceEqDiff → sF, reduceBEq → sG
open Int renaming reduceAdd → sH, reduceSub → sI, reduceMul → sJ, reduceLT → sK, reduceLE → sL, reduceNeg → sM, reduceToNat → sN, reduceEq → sO
set_option maxHeartbeats 8000000
set_option maxRecDepth 100000
theorem woR_step {n : Nat} {es : List Entry} {j : Nat} (h : j < es.length) : woR (n / 2 ^ j) (es.drop j) = if n / 2 ^ j % 2 = 0 then getE es j :: woR (n / 2 ^ (j + 1)) (es.drop (j + 1)) else woR (n / 2 ^ (j + 1)) (es.drop (j + 1)) := by
  rw [drop_getD (d := default) h, Nat.pow_succ, ← Nat.div_div_eq_div_mul]; rfl
theorem woR_end {n : Nat} {es : List Entry} {j : Nat} (h : es.length ≤ j) : woR (n / 2 ^ j) (es.drop j) = [] := by rw [List.drop_of_length_le h]; cases n / 2 ^ j <;> rfl
def wrS (n : Nat) (es : List Entry) (j : Nat) (acc : List Entry) : List Entry := if n / 2 ^ j % 2 = 0 then acc ++ [getE es j] else acc
theorem wr_next {n : Nat} {es acc : List Entry} {j : Nat} {R : List Entry} (h : j < es.length) (hc : acc.length ≤ j) (hw : acc ++ woR (n / 2 ^ j) (es.drop j) = R) : j + 1 ≤ es.length ∧ (wrS n es j acc).length ≤ j + 1 ∧ wrS n es j acc ++ woR (n / 2 ^ (j + 1)) (es.drop (j + 1)) = R := by
  rw [woR_step h] at hw
  unfold wrS
  split
  · rename_i hj; rw [if_pos hj] at hw; exact ⟨h, by simp; omega, by rw [← hw]; simp⟩
  · rename_i hj; rw [if_neg hj] at hw; exact ⟨h, by omega, hw⟩
theorem wr_in {n : Nat} {es acc : List Entry} {j : Nat} (h : ((n / 2 ^ j : Nat) : Int) % 2 = 0) : wrS n es j acc = acc ++ [getE es j] := if_pos (by omega)
theorem wr_out {n : Nat} {es acc : List Entry} {j : Nat} (h : ¬ ((n / 2 ^ j : Nat) : Int) % 2 = 0) : wrS n es j acc = acc := if_neg (by omega)
theorem c51 (a : Acc) (n : Nat) (hl2 : a.entries.length ≤ 16) : PCall Go.Proofs.Try.prog 51 [avA a, i64 n] (avA (withoutR a n)) := by
  refine pcall_mk (v := []) (q := []) (N := 33) (rs := [.cell 4 25]) Go.Proofs.Try.func51 rfl rfl rfl rfl rfl ?_
  refine awp_seq_k fun K1 hK1 => ?_
  refine awp_ops ?_
  simp (disch := omega) only [amL, amT, sA, sB, sF, ↓reduceIte]
  refine hK1 _ ?_
  refine awp_seq_k fun K2 hK2 => ?_
  refine awp_ops ?_
  simp (disch := omega) only [amL, amT, sA, sB, sF, ↓reduceIte]
  refine hK2 _ ?_
  refine awp_seq_k fun K3 hK3 => ?_
  refine awp_ops ?_
  simp (disch := omega) only [amL, amT, sA, sB, ↓reduceIte, reduceCtorEq]
  refine hK3 _ ?_
  refine awp_seq_k fun K4 hK4 => ?_
  refine awp_seq_k fun K5 hK5 => ?_
  refine awp_ops ?_
  simp (disch := omega) only [amL, sA]
  refine hK5 _ ?_
  refine awp_block ?_
  refine awp_adoptC' 30 5 5 5 (by decide) rfl rfl rfl ?_
  refine awp_loop_k (α := Nat × List Entry) (fun x => ⟨T [(1, i64 (n : Int)), (2, .ptr 2 0), (4, .ptr 4 0), (5, .ptr 5 0), (6, i64 (x.1 : Int))], O [(5, .cells [i64 a.last, i64 a.interest, i64 a.bond, i64 a.purse, .p (.sl (a.rates.map encR)), .own 30 x.2.length]), (30, .arr 5 (x.2.map encE)), (2, .cells (cA a)), (4, .cells [i64 0, i64 0, i64 0, i64 0, .p (.val (.slice none 0 0)), .p (.val (.slice none 0 0))])]⟩) (fun x => a.entries.length - x.1) (fun x => x.1 ≤ a.entries.length ∧ x.2.length ≤ x.1 ∧ x.2 ++ woR (n / 2 ^ x.1) (a.entries.drop x.1) = woR n a.entries) (0, []) ?_ ?_ (fun x hx6 K6 hK6 => ?_)
  · exact ⟨by omega, by simp, by simp⟩
  · refine le_mk ?_ ?_ ?_ ?_ <;> (try simp (disch := omega) only [amL, sF, sG, ↓reduceIte, reduceCtorEq])
  obtain ⟨j, acc⟩ := x; dsimp only at hx6 ⊢; obtain ⟨hj, hc, hw⟩ := hx6
  refine awp_seq_k fun K7 hK7 => ?_
  refine awp_seq_k fun K8 hK8 => ?_
  refine awp_ops ?_
  simp (disch := omega) only [amL, amT, sA, sF, ↓reduceIte, reduceCtorEq]
  refine hK8 _ ?_
  refine awp_cond rfl (fun h => ?_) (fun h => ?_)
  ·first
   | exact Bool.noConfusion h
   |skip
    try simp only [decide_eq_true_eq] at h
    refine awp_skip ?_
    refine hK7 _ ?_
    refine awp_seq_k fun K9 hK9 => ?_
    refine awp_block ?_
    refine awp_seq_k fun K10 hK10 => ?_
    refine awp_ops ?_
    simp (disch := omega) only [wrapU, shrN, amL, amT, sA, sF, sO, ↓reduceIte]
    refine hK10 _ ?_
    refine awp_cond rfl (fun h => ?_) (fun h => ?_)
    ·first
     | exact Bool.noConfusion h
     |skip
      try simp only [decide_eq_true_eq] at h
      refine awp_any2 (by kernel_rfl) (by kernel_rfl) ?_
      simp (disch := omega) only [encE_getD, amL, amT, sA, sB, sC, sE, sF, ↓reduceIte, reduceCtorEq]
      refine hK9 _ ?_
      refine awp_ops ?_
      simp (disch := omega) only [amL, amT, sA, sF, ↓reduceIte]
      refine hK6 (j+1, wrS n a.entries j acc) _ ?_ ?_ (le_mk ?_ ?_ ?_ ?_)
      all_goals (try simp (disch := omega) only [amL, sF, sG, ↓reduceIte])
      all_goals first | omega | exact wr_next (by omega) hc hw | (rw [wr_out (by assumption)]; exact ⟨rfl, rfl⟩) | (rw [wr_in (by assumption)]; refine ⟨?_, ?_⟩ <;> simp; done) | (omega)
    ·first
     | exact Bool.noConfusion h
     |skip
      try simp only [decide_eq_false_iff_not] at h
      refine awp_skip ?_
      refine hK9 _ ?_
      refine awp_ops ?_
      simp (disch := omega) only [amL, amT, sA, sF, ↓reduceIte]
      refine hK6 (j+1, wrS n a.entries j acc) _ ?_ ?_ (le_mk ?_ ?_ ?_ ?_)
      all_goals (try simp (disch := omega) only [amL, sF, sG, ↓reduceIte])
      all_goals first | omega | exact wr_next (by omega) hc hw | (rw [wr_out (by assumption)]; exact ⟨rfl, rfl⟩) | (rw [wr_in (by assumption)]; refine ⟨?_, ?_⟩ <;> simp; done) | (omega)
  ·first
   | exact Bool.noConfusion h
   |skip
    try simp only [decide_eq_false_iff_not] at h
    refine awp_exit ?_
    refine hK4 _ ?_
    refine awp_seq_k fun K11 hK11 => ?_
    refine awp_ops ?_
    simp (disch := omega) only [amL, amT, sB, sF, ↓reduceIte]
    refine hK11 _ ?_
    refine awp_ret ?_
    try simp (disch := omega) only [amL, amT, sB, sF, ↓reduceIte]
    rw [woR_end (by omega), List.append_nil] at hw; rw [List.take_of_length_le (by simp), hw]; rfl
end AM.Try
end
/- Plain laws: an account that is multiplied; a further statement. -/
section
namespace AM.Try
open Go AM AM.Duty
open Nat renaming reduceLT → sA, reduceAdd → sB, reduceMul → sC, reduceSub → sD, reduceLeDiff → sE, reduceEqDiff → sF, reduceBEq → sG
open Int renaming reduceAdd → sH, reduceSub → sI, reduceMul → sJ, reduceLT → sK, reduceLE → sL, reduceNeg → sM, reduceToNat → sN, reduceEq → sO
theorem dayS_nil {a : Acc} {t : List Int} {day : Nat} {w : Wk} : dayS a t [] day w = dayF (ratedX a.rates (day + 1)) day a.entries t (dayI a w) := by
  unfold dayS; dsimp only; rw [if_neg (by simp)]
end AM.Try
end
/- Plain laws: sets of entries by bits; one entry changed or left out. -/
section
namespace AM.Try
open Go AM AM.Duty
open Nat renaming reduceLT → sA, reduceAdd → sB, reduceMul → sC, reduceSub → sD, reduceLeDiff → sE, reduceEqDiff → sF, reduceBEq → sG
open Int renaming reduceAdd → sH, reduceSub → sI, reduceMul → sJ, reduceLT → sK, reduceLE → sL, reduceNeg → sM, reduceToNat → sN, reduceEq → sO
theorem wo_erase : ∀ {es : List Entry} {k : Nat}, woR (2 ^ k) es = es.eraseIdx k
  | [], _ => by simp [woR]
  | e :: es, 0 => by
    simp only [woR, Nat.pow_zero, List.eraseIdx_zero, List.tail_cons]
    rw [if_neg (by decide)]
    exact wo_zero es
  | e :: es, k + 1 => by
    have h1 : 2 ^ (k + 1) = 2 * 2 ^ k := by rw [Nat.pow_succ, Nat.mul_comm]
    simp only [woR, h1, List.eraseIdx_cons_succ]
    rw [if_pos (by omega), show 2 * 2 ^ k / 2 = 2 ^ k by omega, wo_erase]
  where wo_zero : ∀ es : List Entry, woR (1 / 2) es = es
  | [] => rfl
  | e :: es => by
    have := wo_zero es
    simp only [woR] at this ⊢
    rw [if_pos (by decide)]; exact congrArg _ this
theorem dayF_erase {rate day : Int} : ∀ {k : Nat} {es : List Entry} {t : List Int} {w : Wk}, t.length = es.length → k < es.length → ¬ (getE es k).day = day → dayF rate day (es.eraseIdx k) (t.eraseIdx k) w = dayF rate day es t w
  | 0, e :: es, u :: t, w, _, _, hd => by
    simp only [List.eraseIdx_zero, List.tail_cons, dayF]
    rw [step_other (e := e) hd]
  | k + 1, e :: es, u :: t, w, hl, hk, hd => by
    simp only [List.eraseIdx_cons_succ, dayF]
    exact dayF_erase (by simpa using hl) (by simpa using hk) hd
  | _, [], _, _, _, h, _ => by simp at h
  | _, _ :: _, [], _, h, _, _ => by simp at h
theorem dayF_set {rate day : Int} {f : Entry} {v : Int} : ∀ {k : Nat} {es : List Entry} {t : List Int} {w : Wk}, t.length = es.length → k < es.length → ¬ (getE es k).day = day → f.day = (getE es k).day → dayF rate day (es.set k f) (t.set k v) w = dayF rate day es t w
  | 0, e :: es, u :: t, w, _, _, hd, hf => by
    simp only [List.set_cons_zero, dayF]
    rw [step_other (e := e) hd, step_other (e := f) (by rw [hf]; exact hd)]
  | k + 1, e :: es, u :: t, w, hl, hk, hd, hf => by
    simp only [List.set_cons_succ, dayF]
    exact dayF_set (by simpa using hl) (by simpa using hk) hd hf
  | _, [], _, _, _, h, _, _ => by simp at h
  | _, _ :: _, [], _, h, _, _, _ => by simp at h
theorem debts_before {a x : Acc} {t u : List Int} {D : Nat} (h : ∀ (day : Nat) w, day < D → dayS x u [] day w = dayS a t [] day w) : ∀ (c day : Nat) w j, day + j < D → j < c → (debtsF x u [] c day w).1.getD j 0 = (debtsF a t [] c day w).1.getD j 0
  | 0, _, _, _, _, h2 => by omega
  | c + 1, day, w, 0, h1, _ => by simp only [debtsF, List.getD_cons_zero]; rw [h day w (by omega)]
  | c + 1, day, w, j + 1, h1, h2 => by
    simp only [debtsF, List.getD_cons_succ]
    rw [h day w (by omega)]
    exact debts_before h c (day + 1) _ j (by omega) (by omega)
theorem before_erase {a : Acc} {t : List Int} {k : Nat} (ht : t.length = a.entries.length) (hk : k < a.entries.length) {j : Nat} (hj : (j : Int) < (getE a.entries k).day) (hj2 : j < (a.last + 1).toNat) : debtOn { a with entries := a.entries.eraseIdx k } j (t.eraseIdx k) = debtOn a j t := by
  unfold debtOn debtsS
  refine debts_before (D := j + 1) (fun day w hd => ?_) _ _ _ _ (by omega) hj2
  rw [dayS_nil, dayS_nil]
  exact dayF_erase ht hk (by omega)
theorem before_set {a : Acc} {t : List Int} {k : Nat} {f : Entry} {v : Int} (ht : t.length = a.entries.length) (hk : k < a.entries.length) (hf : f.day = (getE a.entries k).day) {j : Nat} (hj : (j : Int) < (getE a.entries k).day) (hj2 : j < (a.last + 1).toNat) : debtOn { a with entries := a.entries.set k f } j (t.set k v) = debtOn a j t := by
  unfold debtOn debtsS
  refine debts_before (D := j + 1) (fun day w hd => ?_) _ _ _ _ (by omega) hj2
  rw [dayS_nil, dayS_nil]
  exact dayF_set ht hk (by omega) hf
theorem listed_erase : ∀ {k : Nat} {es : List Entry} {t : List Int}, listedS es t = true → listedS (es.eraseIdx k) (t.eraseIdx k) = true
  | _, [], [], _ => by simp [listedS]
  | 0, e :: es, u :: t, h => by
    simp only [listedS, Bool.and_eq_true] at h
    exact h.2
  | k + 1, e :: es, u :: t, h => by
    simp only [listedS, Bool.and_eq_true] at h
    simp only [List.eraseIdx_cons_succ, listedS, Bool.and_eq_true]
    exact ⟨h.1, listed_erase h.2⟩
  | _, [], _ :: _, h => by cases h
  | _, _ :: _, [], h => by cases h
theorem listed_set {f : Entry} {v : Int} (hf : f.lo ≤ v ∧ v ≤ f.hi) : ∀ {k : Nat} {es : List Entry} {t : List Int}, listedS es t = true → listedS (es.set k f) (t.set k v) = true
  | _, [], [], _ => by simp [listedS]
  | 0, e :: es, u :: t, h => by
    simp only [listedS, Bool.and_eq_true] at h
    simp only [List.set_cons_zero, listedS, inB, Bool.and_eq_true, decide_eq_true_eq]
    exact ⟨hf, h.2⟩
  | k + 1, e :: es, u :: t, h => by
    simp only [listedS, Bool.and_eq_true] at h
    simp only [List.set_cons_succ, listedS, Bool.and_eq_true]
    exact ⟨h.1, listed_set hf h.2⟩
  | _, [], _ :: _, h => by cases h
  | _, _ :: _, [], h => by cases h
end AM.Try
end
/- The law of what is left out. -/
section
namespace AM.Try
open Go AM AM.Duty
open Nat renaming reduceLT → sA, reduceAdd → sB, reduceMul → sC, reduceSub → sD, reduceLeDiff → sE, reduceEqDiff → sF, reduceBEq → sG
open Int renaming reduceAdd → sH, reduceSub → sI, reduceMul → sJ, reduceLT → sK, reduceLE → sL, reduceNeg → sM, reduceToNat → sN, reduceEq → sO
set_option maxHeartbeats 8000000
set_option maxRecDepth 100000
theorem fault_woR {a : Acc} (hf : faultS a = 0) (n : Nat) : faultS (withoutR a n) = 0 := by
  have hl := (fault_zero hf).2.1
  rw [← without_eq (by omega)]
  exact fault_wo hf _
end AM.Try
end
/- Play's debts are new; a list's copy is one's own. -/
section
namespace AM.Try
open Go AM AM.Duty
open Nat renaming reduceLT → sA, reduceAdd → sB, reduceMul → sC, reduceSub → sD, reduceLeDiff → sE, reduceEqDiff → sF, reduceBEq → sG
open Int renaming reduceAdd → sH, reduceSub → sI, reduceMul → sJ, reduceLT → sK, reduceLE → sL, reduceNeg → sM, reduceToNat → sN, reduceEq → sO
set_option maxHeartbeats 8000000
set_option maxRecDepth 100000
theorem n23 (l : List Int) (hl : l.length < 1000000) : NCall Go.Proofs.Try.prog 23 [isl l] 1 (l.map encI) := by
  refine ncall_mk (v := []) (q := []) (N := 6) (i := 2) Go.Proofs.Try.func23 rfl rfl rfl rfl ?_
  refine awp_seq_k fun K1 hK1 => ?_
  refine awp_ops ?_
  simp (disch := omega) only [amL, sA]
  refine hK1 _ ?_
  refine awp_seq_k fun K2 hK2 => ?_
  refine awp_ops ?_
  simp (disch := omega) only [isl_all, amL, amT, sA, sF, ↓reduceIte, reduceCtorEq]
  refine hK2 _ ?_
  refine awp_ret ?_
  try simp (disch := omega) only [RetN_ret, amL, ↓reduceIte]
  first | (rw [viewN_own rfl (by simp) (ints_isVal l)]; done) | (omega)
theorem c21f (a : Acc) (t : List Int) (hl1 : a.rates.length < 1000000) (hl2 : a.entries.length < 1000000) (hlt : t.length < 1000000) (hin : ∀ e ∈ a.entries, inR e.lo = true ∧ inR e.hi = true) : FCall Go.Proofs.Try.prog 21 [avA a, isl t] (playA a t) := by
  refine fcallt_mk (v := []) (q := []) (N := 52) (i := 4) (j := 5) Go.Proofs.Try.func21 rfl rfl rfl rfl (playA_isP a t) ?_
  refine awp_seq_k fun K1 hK1 => ?_
  refine awp_ops ?_
  simp (disch := omega) only [amL, sA, sB, ↓reduceIte]
  refine hK1 _ ?_
  refine awp_seq_k fun K2 hK2 => ?_
  refine awp_seq_k fun K3 hK3 => ?_
  refine awp_ops ?_
  simp (disch := omega) only [amL, amT, sA, sB, sF, ↓reduceIte]
  repeat' first | (refine EC_intro (by kernel_rfl) rfl (c25 a hl1 hl2 hin) (by first | exact .inl rfl | exact .inr (.inl rfl)) ?_ ; simp (disch := omega) only [amL, sA, ↓reduceIte])
  refine hK3 _ ?_
  refine awp_seq_k fun K4 hK4 => ?_
  refine awp_ops ?_
  simp (disch := omega) only [ne_eq, amL, amT, sA, ↓reduceIte]
  refine hK4 _ ?_
  refine awp_cond rfl (fun h => ?_) (fun h => ?_)
  ·first
   | exact Bool.noConfusion h
   |skip
    try simp only [Bool.not_eq_true', decide_eq_false_iff_not, decide_not] at h
    refine awp_seq_k fun K5 hK5 => ?_
    refine awp_ops ?_
    simp (disch := omega) only [amL, sA, sF, ↓reduceIte]
    refine hK5 _ ?_
    refine awp_ret ?_
    try simp (disch := omega) only [RetFT_ret, amL, sF, ↓reduceIte]
    first | (rw [playA, if_neg (by assumption)]; exact ⟨_, _, rfl, rfl, rfl⟩) | (rw [playA, if_pos hf0, if_pos hli, if_pos hb]; refine ⟨_, _, viewT_own rfl (by simp) (ints_isVal _), rfl, ?_⟩; rw [List.take_of_length_le (by simp)]; done) | (rw [playA, if_pos hf0, if_pos hli, if_neg (by simpa using h)]; exact ⟨_, _, rfl, rfl, rfl⟩) | (rw [playA, if_pos (by omega), if_neg (fun e => by have := listed_len e; omega)]; exact ⟨_, _, rfl, rfl, rfl⟩) | (rw [playA, if_pos (by omega), if_neg (fun e => by have := listed_get e k (by omega); simp_all)]; exact ⟨_, _, rfl, rfl, rfl⟩) | (omega)
  ·first
   | exact Bool.noConfusion h
   |skip
    try simp only [decide_eq_true_eq, Bool.not_eq_false', decide_not] at h
    refine awp_skip ?_
    refine hK2 _ ?_
    refine awp_seq_k fun K6 hK6 => ?_
    refine awp_seq_k fun K7 hK7 => ?_
    refine awp_ops ?_
    simp (disch := omega) only [ne_eq, amL, amT, sA, sF, ↓reduceIte, reduceCtorEq]
    refine hK7 _ ?_
    refine awp_cond rfl (fun h => ?_) (fun h => ?_)
    ·first
     | exact Bool.noConfusion h
     |skip
      try simp only [Bool.not_eq_true', decide_eq_false_iff_not, decide_not] at h
      refine awp_seq_k fun K8 hK8 => ?_
      refine awp_ops ?_
      simp (disch := omega) only [amL, sA]
      refine hK8 _ ?_
      refine awp_ret ?_
      try simp (disch := omega) only [RetFT_ret, amL, sF, ↓reduceIte]
      first | (rw [playA, if_neg (by assumption)]; exact ⟨_, _, rfl, rfl, rfl⟩) | (rw [playA, if_pos hf0, if_pos hli, if_pos hb]; refine ⟨_, _, viewT_own rfl (by simp) (ints_isVal _), rfl, ?_⟩; rw [List.take_of_length_le (by simp)]; done) | (rw [playA, if_pos hf0, if_pos hli, if_neg (by simpa using h)]; exact ⟨_, _, rfl, rfl, rfl⟩) | (rw [playA, if_pos (by omega), if_neg (fun e => by have := listed_len e; omega)]; exact ⟨_, _, rfl, rfl, rfl⟩) | (rw [playA, if_pos (by omega), if_neg (fun e => by have := listed_get e k (by omega); simp_all)]; exact ⟨_, _, rfl, rfl, rfl⟩) | (omega)
    ·first
     | exact Bool.noConfusion h
     |skip
      try simp only [decide_eq_true_eq, Bool.not_eq_false', decide_not] at h
      refine awp_skip ?_
      refine hK6 _ ?_
      refine awp_seq_k fun K9 hK9 => ?_
      refine awp_seq_k fun K10 hK10 => ?_
      refine awp_ops ?_
      simp (disch := omega) only [amL, amT, sA, sF, ↓reduceIte, reduceCtorEq]
      refine hK10 _ ?_
      refine awp_block ?_
      skip
      refine awp_loop_k (α := Nat) (fun k => ⟨T [(1, isl t), (2, .ptr 2 0), (23, .p (.sl (a.entries.map encE))), (24, i64 a.entries.length), (25, i64 k)], O [(2, .cells (cA a))]⟩) (fun k => a.entries.length - k) (fun k => k ≤ a.entries.length ∧ ∀ j, j < k → inB (t.getD j 0) (getE a.entries j).lo (getE a.entries j).hi = true) 0 ?_ ?_ (fun k hx11 K11 hK11 => ?_)
      · exact ⟨by omega, fun j hj => absurd hj (by omega)⟩
      · refine le_mk ?_ ?_ ?_ ?_ <;> (try simp (disch := omega) only [amL, sF, ↓reduceIte, reduceCtorEq])
      obtain ⟨hk, hn⟩ := hx11
      refine awp_seq_k fun K12 hK12 => ?_
      refine awp_ops ?_
      simp (disch := omega) only [amL, amT, sA, sF, ↓reduceIte]
      refine hK12 _ ?_
      refine awp_seq_k fun K13 hK13 => ?_
      refine awp_cond rfl (fun h => ?_) (fun h => ?_)
      ·first
       | exact Bool.noConfusion h
       |skip
        try simp only [decide_eq_true_eq] at h
        refine awp_skip ?_
        refine hK13 _ ?_
        refine awp_seq_k fun K14 hK14 => ?_
        refine awp_block ?_
        refine awp_seq_k fun K15 hK15 => ?_
        refine awp_ops ?_
        simp (disch := omega) only [encE_getD, amL, amT, sA, sB, sF, ↓reduceIte]
        refine hK15 _ ?_
        refine awp_seq_k fun K16 hK16 => ?_
        refine awp_any2 (by kernel_rfl) (by kernel_rfl) ?_
        simp (disch := omega) only [amL, amT, sA, sB, sE, sF, ↓reduceIte, reduceCtorEq]
        repeat' first | (refine EC_intro (by kernel_rfl) rfl (c58 _ _ _) (by first | exact .inl rfl | exact .inr (.inl rfl)) ?_ ; simp (disch := omega) only [amL, sA, ↓reduceIte])
        refine hK16 _ ?_
        refine awp_cond rfl (fun h => ?_) (fun h => ?_)
        ·first
         | exact Bool.noConfusion h
         |skip
          try simp only [Bool.not_eq_true'] at h
          refine awp_seq_k fun K17 hK17 => ?_
          refine awp_ops ?_
          simp (disch := omega) only [amL, sA]
          refine hK17 _ ?_
          refine awp_ret ?_
          try simp (disch := omega) only [RetFT_ret, amL, sF, ↓reduceIte]
          first | (rw [playA, if_neg (by assumption)]; exact ⟨_, _, rfl, rfl, rfl⟩) | (rw [playA, if_pos hf0, if_pos hli, if_pos hb]; refine ⟨_, _, viewT_own rfl (by simp) (ints_isVal _), rfl, ?_⟩; rw [List.take_of_length_le (by simp)]; done) | (rw [playA, if_pos hf0, if_pos hli, if_neg (by simpa using h)]; exact ⟨_, _, rfl, rfl, rfl⟩) | (rw [playA, if_pos (by omega), if_neg (fun e => by have := listed_len e; omega)]; exact ⟨_, _, rfl, rfl, rfl⟩) | (rw [playA, if_pos (by omega), if_neg (fun e => by have := listed_get e k (by omega); simp_all)]; exact ⟨_, _, rfl, rfl, rfl⟩) | (omega)
        ·first
         | exact Bool.noConfusion h
         |skip
          try simp only [Bool.not_eq_false'] at h
          refine awp_skip ?_
          refine hK14 _ ?_
          refine awp_ops ?_
          simp (disch := omega) only [amL, amT, sA, sF, ↓reduceIte]
          refine hK11 (k+1) _ ?_ ?_ (le_mk ?_ ?_ ?_ ?_)
          all_goals (try simp (disch := omega) only [amL, sF, ↓reduceIte])
          all_goals first | omega | exact ⟨by omega, fun j hj => by
            by_cases e : j = k
            · subst e; assumption
            · exact hn j (by omega)⟩ | (omega)
      ·first
       | exact Bool.noConfusion h
       |skip
        try simp only [decide_eq_false_iff_not] at h
        refine awp_exit ?_
        refine hK9 _ ?_
        refine awp_seq_k fun K18 hK18 => ?_
        refine awp_ops ?_
        have hli : listedP a.entries t = true := listed_of (by omega) (fun j hj => hn j (by omega))
        have hf0 : faultS a = 0 := by omega
        have hfit := fitP_of hf0 hli
        have hpl := pad_len (playS_le (t := t) (paid := []) (ask := true) hfit.last1)
        have hpc := putCells_all (vs := List.map i64 (pad (playS a t [] true).1)) (l := [i64 0, i64 0, i64 0, i64 0, i64 0, i64 0, i64 0, i64 0, i64 0, i64 0, i64 0, i64 0]) (by rw [List.length_map, hpl]; rfl)
        have hl0 := hfit.last0
        have hl11 := hfit.last1
        simp (disch := omega) only [amL, amT, sA, sB, sF, ↓reduceIte]
        repeat' first | (refine EC_intro (by kernel_rfl) rfl (PCall.of_nil 2 rfl (c59 a t [] true hfit (by simp))) (by first | exact .inl rfl | exact .inr (.inl rfl)) ?_ ; simp (disch := omega) only [hpl, hpc, amL, amT, sA, sB, sF, ↓reduceIte])
        refine hK18 _ ?_
        refine awp_seq_k fun K19 hK19 => ?_
        refine awp_seq_k fun K20 hK20 => ?_
        refine awp_ops ?_
        simp (disch := omega) only [amL, sA, ↓reduceIte]
        refine hK20 _ ?_
        refine awp_cond rfl (fun h => ?_) (fun h => ?_)
        ·first
         | exact Bool.noConfusion h
         |skip
          try simp only [Bool.not_eq_true'] at h
          refine awp_seq_k fun K21 hK21 => ?_
          refine awp_ops ?_
          simp (disch := omega) only [amL, sA]
          refine hK21 _ ?_
          refine awp_ret ?_
          try simp (disch := omega) only [RetFT_ret, amL, sF, ↓reduceIte]
          first | (rw [playA, if_neg (by assumption)]; exact ⟨_, _, rfl, rfl, rfl⟩) | (rw [playA, if_pos hf0, if_pos hli, if_pos hb]; refine ⟨_, _, viewT_own rfl (by simp) (ints_isVal _), rfl, ?_⟩; rw [List.take_of_length_le (by simp)]; done) | (rw [playA, if_pos hf0, if_pos hli, if_neg (by simpa using h)]; exact ⟨_, _, rfl, rfl, rfl⟩) | (rw [playA, if_pos (by omega), if_neg (fun e => by have := listed_len e; omega)]; exact ⟨_, _, rfl, rfl, rfl⟩) | (rw [playA, if_pos (by omega), if_neg (fun e => by have := listed_get e k (by omega); simp_all)]; exact ⟨_, _, rfl, rfl, rfl⟩) | (omega)
        ·first
         | exact Bool.noConfusion h
         |skip
          try simp only [Bool.not_eq_false'] at h
          refine awp_skip ?_
          refine hK19 _ ?_
          refine awp_seq_k fun K22 hK22 => ?_
          refine awp_ops ?_
          simp (disch := omega) only [EO_slice95, fSlA_ptr, bound_none, bound_some, bnd1_int, viewA_csl, viewC_csl, amL, amT, sA, sF, sH, sK, sL, sN, ↓reduceIte, reduceCtorEq]
          have hb : (playS a t [] true).2 = true := by simpa using h
          simp only [show (a.last + 1 - 0).toNat = (a.last + 1).toNat by omega]
          rw [elems_ints rfl (by rw [hpl]; omega), pad_take2 (playS_len hb)]
          simp only [Option.map_some, oc2_some]
          refine EN_intro (by kernel_rfl) (by decide) (n60 _ (by rw [playS_len hb]; omega)) (by simp (disch := omega) only [amL, sF, ↓reduceIte]) ?_
          simp (disch := omega) only [amL, sA, ↓reduceIte]
          all_goals
           skip
           refine hK22 _ ?_
           refine awp_ret ?_
           try simp (disch := omega) only [RetFT_ret, amL, sF, ↓reduceIte]
           first | (rw [playA, if_neg (by assumption)]; exact ⟨_, _, rfl, rfl, rfl⟩) | (rw [playA, if_pos hf0, if_pos hli, if_pos hb]; refine ⟨_, _, viewT_own rfl (by simp) (ints_isVal _), rfl, ?_⟩; rw [List.take_of_length_le (by simp)]; done) | (rw [playA, if_pos hf0, if_pos hli, if_neg (by simpa using h)]; exact ⟨_, _, rfl, rfl, rfl⟩) | (rw [playA, if_pos (by omega), if_neg (fun e => by have := listed_len e; omega)]; exact ⟨_, _, rfl, rfl, rfl⟩) | (rw [playA, if_pos (by omega), if_neg (fun e => by have := listed_get e k (by omega); simp_all)]; exact ⟨_, _, rfl, rfl, rfl⟩) | (omega)
end AM.Try
end
/- Parts of a list; the law's comparison up to a day. -/
section
namespace AM.Try
open Go AM AM.Duty
open Nat renaming reduceLT → sA, reduceAdd → sB, reduceMul → sC, reduceSub → sD, reduceLeDiff → sE, reduceEqDiff → sF, reduceBEq → sG
open Int renaming reduceAdd → sH, reduceSub → sI, reduceMul → sJ, reduceLT → sK, reduceLE → sL, reduceNeg → sM, reduceToNat → sN, reduceEq → sO
set_option maxHeartbeats 8000000
set_option maxRecDepth 100000
def fSlP (esz : Nat → Nat) (ea : Nat → Option Bool) (e : Nat) (x : AV) (lo : Option Int) (hi : Nat → Option Int) : Option Eff :=
  match x.pv?.bind PV.list?, lo with
  | some es, some l => match hi es.length with
    | some h => if 0 ≤ l ∧ l ≤ h ∧ h ≤ es.length ∧ (ea e).isSome ∧ (es.all fun c => decide (c.length = esz e)) then some (.pure (.p (.sl ((es.take h.toNat).drop l.toNat)))) else none
    | none => none
  | _, _ => none
def fSlQ (esz : Nat → Nat) (ea : Nat → Option Bool) (e : Nat) (es : List (List PV)) (l : Int) : Option Int → Option Eff
  | some h => if 0 ≤ l ∧ l ≤ h ∧ h ≤ es.length ∧ (ea e).isSome ∧ (es.all fun c => decide (c.length = esz e)) then some (.pure (.p (.sl ((es.take h.toNat).drop l.toNat)))) else none
  | none => none
theorem EO_slice26 {r : RB} {N : Nat} {s : St} {K : St → Prop} {dst : Option Nat} {ty : TypeId} {pos : String} {after : Array Edge} {g : Option (Nat × Bool)} {x : Operand} {lo hi : Option Operand} : EO Go.Proofs.Try.prog r N ⟨dst, .slice 26 x lo hi none, ty, pos, after, g⟩ s K = EOp r.b N dst s K (fSlP (fun e => (tyOf Go.Proofs.Try.prog e).sz) (fun e => (tyOf Go.Proofs.Try.prog e).agg) 3 (ev s.t x) (bound? (ev s.t) 0 lo) (fun n => bound? (ev s.t) n hi)) := by
  refine EO_eff rfl rfl ?_
  simp only [eff, ty26]
  rfl
theorem fSlP_sl {esz : Nat → Nat} {ea : Nat → Option Bool} {e : Nat} {es : List (List PV)} {l : Int} {hi : Nat → Option Int} : fSlP esz ea e (.p (.sl es)) (some l) hi = fSlQ esz ea e es l (hi es.length) := rfl
theorem fSlQ_some {esz : Nat → Nat} {ea : Nat → Option Bool} {e : Nat} {es : List (List PV)} {l h : Int} : fSlQ esz ea e es l (some h) = if 0 ≤ l ∧ l ≤ h ∧ h ≤ es.length ∧ (ea e).isSome ∧ (es.all fun c => decide (c.length = esz e)) then some (.pure (.p (.sl ((es.take h.toNat).drop l.toNat)))) else none := rfl
def sameS (a b : List Int) (e : Int) : Bool := (List.range e.toNat).all fun i => decide (i < a.length) && (decide (i < b.length) && decide (a.getD i 0 = b.getD i 0))
theorem same_no {a b : List Int} {e : Int} {k : Nat} (h : (k : Int) < e) (hn : ¬ (k < a.length ∧ k < b.length ∧ a.getD k 0 = b.getD k 0)) : sameS a b e = false := by
  unfold sameS
  rw [List.all_eq_false]
  refine ⟨k, List.mem_range.2 (by omega), fun hx => hn ?_⟩
  simpa using hx
theorem same_yes {a b : List Int} {e : Int} {k : Nat} (h : ¬ (k : Int) < e) (hk : ∀ i : Nat, i < k → i < a.length ∧ i < b.length ∧ a.getD i 0 = b.getD i 0) : sameS a b e = true := by
  unfold sameS
  rw [List.all_eq_true]
  intro i hi
  have := List.mem_range.1 hi
  simpa using hk i (by omega)
theorem same_next {a b : List Int} {k : Nat} (hk : ∀ i : Nat, i < k → i < a.length ∧ i < b.length ∧ a.getD i 0 = b.getD i 0) (h : k < a.length ∧ k < b.length ∧ a.getD k 0 = b.getD k 0) : ∀ i : Nat, i < k + 1 → i < a.length ∧ i < b.length ∧ a.getD i 0 = b.getD i 0 := fun i hi => by
  by_cases e : i = k
  · subst e; exact h
  · exact hk i (by omega)
theorem c52 (a b : List Int) (e : Int) (ha : a.length < 1000000) (_ : b.length < 1000000) : PCall Go.Proofs.Try.prog 52 [isl a, isl b, i64 e] (bl (sameS a b e)) := by
  refine pcall_mk (v := []) (q := []) (N := 34) (rs := [.tmp 6]) Go.Proofs.Try.func52 rfl rfl rfl rfl rfl ?_
  refine awp_seq_k fun K1 hK1 => ?_
  refine awp_ops ?_
  simp (disch := omega) only [amL, sA, sB]
  refine hK1 _ ?_
  refine awp_seq_k fun K2 hK2 => ?_
  refine awp_seq_k fun K3 hK3 => ?_
  refine awp_ops ?_
  simp (disch := omega) only [amL, sA]
  refine hK3 _ ?_
  refine awp_block ?_
  skip
  refine awp_loop_k (α := Nat) (fun k => ⟨T [(0, isl a), (1, isl b), (2, i64 e), (7, i64 (k : Int))], O []⟩) (fun k => 1000000 - k) (fun k => (k : Int) ≤ 1000000 ∧ (k ≤ a.length) ∧ ∀ i : Nat, i < k → i < a.length ∧ i < b.length ∧ a.getD i 0 = b.getD i 0) 0 ?_ ?_ (fun k hx4 K4 hK4 => ?_)
  · exact ⟨by omega, by omega, fun i hi => absurd hi (by omega)⟩
  · refine le_mk ?_ ?_ ?_ ?_ <;> (try simp (disch := omega) only [amL, sF, ↓reduceIte, reduceCtorEq]); all_goals first | rfl | (omega)
  obtain ⟨hk0, hk1, hk⟩ := hx4
  refine awp_seq_k fun K5 hK5 => ?_
  refine awp_seq_k fun K6 hK6 => ?_
  refine awp_ops ?_
  simp (disch := omega) only [amL, amT, sA, sF, ↓reduceIte, reduceCtorEq]
  refine hK6 _ ?_
  refine awp_cond rfl (fun h => ?_) (fun h => ?_)
  ·first
   | exact Bool.noConfusion h
   |skip
    try simp only [decide_eq_true_eq] at h
    refine awp_skip ?_
    refine hK5 _ ?_
    refine awp_seq_k fun K7 hK7 => ?_
    refine awp_block ?_
    refine awp_seq_k fun K8 hK8 => ?_
    refine awp_any2 (by kernel_rfl) (by kernel_rfl) ?_
    simp (disch := omega) only [amL, amT, sA, sF, ↓reduceIte, reduceCtorEq]
    repeat' first | (refine EG_dec (fun h => ?_) (fun h => ?_) <;> simp (disch := omega) only [h, amL, amT, sA, sF, ↓reduceIte, reduceCtorEq]) | (refine EG_cases (fun h => ?_) (fun h => ?_) <;> simp (disch := omega) only [h, amL, amT, sA, sB, sC, sD, sE, sF, sG, sH, sI, sJ, sK, sL, sM, sN, sO, ↓reduceIte, reduceCtorEq])
    all_goals
     skip
     refine hK8 _ ?_
     refine awp_cond rfl (fun h => ?_) (fun h => ?_)
     ·first
      | exact Bool.noConfusion h
      |skip
       try simp only [Bool.not_eq_true', decide_eq_false_iff_not, decide_not] at h
       refine awp_seq_k fun K9 hK9 => ?_
       refine awp_ops ?_
       simp (disch := omega) only [amL, sA]
       refine hK9 _ ?_
       refine awp_ret ?_
       try simp (disch := omega) only [amL, ↓reduceIte]
       all_goals first | (rw [same_yes (k := k) (by assumption) hk]; done) | (rw [same_no (k := k) (by omega) (by omega)]; done) | (rw [same_no (k := k) (by omega) (by simp_all)]; done) | (omega)
     ·first
      | exact Bool.noConfusion h
      |skip
       try simp only [decide_eq_true_eq, Bool.not_eq_false', decide_not] at h
       refine awp_skip ?_
       refine hK7 _ ?_
       refine awp_ops ?_
       simp (disch := omega) only [amL, amT, sA, sF, ↓reduceIte, reduceCtorEq]
       refine hK4 (k+1) _ ?_ ?_ (le_mk ?_ ?_ ?_ ?_)
       all_goals (try simp (disch := omega) only [amL, sF, ↓reduceIte, reduceCtorEq])
       all_goals first | omega | exact ⟨by omega, by omega, same_next hk ⟨by omega, by omega, by simp_all⟩⟩ | (omega)
  ·first
   | exact Bool.noConfusion h
   |skip
    try simp only [decide_eq_false_iff_not] at h
    refine awp_exit ?_
    refine hK2 _ ?_
    refine awp_seq_k fun K10 hK10 => ?_
    refine awp_ops ?_
    simp (disch := omega) only [amL, sA]
    refine hK10 _ ?_
    refine awp_ret ?_
    try simp (disch := omega) only [amL, ↓reduceIte]
    all_goals first | (rw [same_yes (k := k) (by assumption) hk]; done) | (rw [same_no (k := k) (by omega) (by omega)]; done) | (rw [same_no (k := k) (by omega) (by simp_all)]; done) | (omega)
end AM.Try
end
/- The statements: an entry that is read. -/
section
namespace AM.Try
set_option maxRecDepth 100000
open Go AM AM.Duty Go.ChangeShapes Go.WideShapes Go.ChangeAt Go.RowKit
section
variable {H : Type} {enc : TypeId × Value → H} {W : World}
def EntIn (e : Entry) : Prop := inR e.kind = true ∧ inR e.day = true ∧ inR e.lo = true ∧ inR e.hi = true ∧ inR e.pence = true
theorem open_entry {base : Nat} {v : Value} {d : DataW H} {p : List MemPlace} (hv : Value.okWide TP W .any base 78 v) (h : DataW.Trod enc TP W 0 (fun _ => true) true 78 v d p) : ∃ e : Entry, EntIn e ∧ ∀ θ, ARel θ (fun _ => False) W (avE e) v := by
  simp only [Value.okWide, Go.Proofs.Try.underlying78] at hv
  obtain ⟨cs, rfl, _⟩ := hv
  obtain ⟨n, hn⟩ := h
  obtain ⟨l⟩ := cs
  obtain ⟨ms, h1, h2, h3⟩ := el78 n _ _ hn
  have h1 : l = ms.map (fun m => Value.int .i64 m) := h1
  subst h1
  match ms, h2, h3 with
  | [a, b, c, d, e], _, h3 =>
    refine ⟨⟨a, b, c, d, e⟩, ⟨h3 _ (by simp), h3 _ (by simp), h3 _ (by simp), h3 _ (by simp), h3 _ (by simp)⟩, fun θ => .agg _ _ rfl (fun i hi => ?_) (fun i x hx => ?_)⟩
    · match i, hi with
      | 0, _ => rfl
      | 1, _ => rfl
      | 2, _ => rfl
      | 3, _ => rfl
      | 4, _ => rfl
    · match i, hx with
      | 0, hx => cases hx; exact .p _ _ (.val _ rfl)
      | 1, hx => cases hx; exact .p _ _ (.val _ rfl)
      | 2, hx => cases hx; exact .p _ _ (.val _ rfl)
      | 3, hx => cases hx; exact .p _ _ (.val _ rfl)
      | 4, hx => cases hx; exact .p _ _ (.val _ rfl)
end
end AM.Try
end
/- The law of what was before. -/
section
namespace AM.Try
open Go AM AM.Duty
open Nat renaming reduceLT → sA, reduceAdd → sB, reduceMul → sC, reduceSub → sD, reduceLeDiff → sE, reduceEqDiff → sF, reduceBEq → sG
open Int renaming reduceAdd → sH, reduceSub → sI, reduceMul → sJ, reduceLT → sK, reduceLE → sL, reduceNeg → sM, reduceToNat → sN, reduceEq → sO
set_option maxHeartbeats 8000000
set_option maxRecDepth 100000
abbrev otE (a : Acc) (k : Nat) (o : Entry) : Entry := { o with day := (getE a.entries k).day }
abbrev otA (a : Acc) (k : Nat) (o : Entry) : Acc := { a with entries := a.entries.set k (otE a k o) }
theorem wo_k (a : Acc) (k : Nat) : withoutR a (2 ^ k) = { a with entries := a.entries.eraseIdx k } := by unfold withoutR; rw [wo_erase]
theorem same_of {a x : Acc} {t u : List Int} {e : Int} (hl : x.last = a.last) (he : e ≤ a.last) (h : ∀ j : Nat, (j : Int) < e → debtOn x j u = debtOn a j t) : sameS (debtsS a t []).1 (debtsS x u []).1 e = true := by
  unfold sameS
  rw [List.all_eq_true]
  intro i hi
  have hi := List.mem_range.1 hi
  have h1 := debts_full (a := a) t []
  have h2 := debts_full (a := x) u []
  rw [hl] at h2
  have h3 := h i (by omega)
  unfold debtOn at h3
  simp only [Bool.and_eq_true, decide_eq_true_eq]
  exact ⟨by omega, by omega, h3.symm⟩
theorem same_erase {a : Acc} (hf : faultS a = 0) {t : List Int} {k : Nat} (ht : t.length = a.entries.length) (hk : k < a.entries.length) : sameS (debtsS a t []).1 (debtsS (withoutR a (2 ^ k)) (t.eraseIdx k) []).1 (getE a.entries k).day = true := by
  have hp := isEntry_parts (List.all_eq_true.1 (fault_zero hf).2.2.2.2.1 _ (getD_mem default hk))
  rw [wo_k]
  exact same_of rfl hp.2.2 fun j hj => before_erase ht hk hj (by have : (getE a.entries k).day ≤ a.last := hp.2.2; omega)
theorem same_set {a : Acc} (hf : faultS a = 0) {t : List Int} {k : Nat} (ht : t.length = a.entries.length) (hk : k < a.entries.length) (o : Entry) (v : Int) : sameS (debtsS a t []).1 (debtsS (otA a k o) (t.set k v) []).1 (getE a.entries k).day = true := by
  have hp := isEntry_parts (List.all_eq_true.1 (fault_zero hf).2.2.2.2.1 _ (getD_mem default hk))
  exact same_of rfl hp.2.2 fun j hj => before_set (f := otE a k o) ht hk rfl hj (by have : (getE a.entries k).day ≤ a.last := hp.2.2; omega)
theorem ot_listed {a : Acc} {t : List Int} {k : Nat} {o : Entry} (hk : k < a.entries.length) (hfx : faultS (otA a k o) = 0) (h : listedS a.entries t = true) : listedS (otA a k o).entries (t.set k o.lo) = true := by
  have hm : otE a k o ∈ (otA a k o).entries := by
    show otE a k o ∈ a.entries.set k (otE a k o)
    rw [List.mem_iff_getElem?]
    exact ⟨k, by rw [List.getElem?_set, if_pos rfl, if_pos hk]⟩
  exact listed_set ⟨Int.le_refl _, lo_le hfx _ hm⟩ h
theorem c10 (a : Acc) (d c : Nat) (o : Entry) (hin : AccIn a) (h1 : d < 65536) (h2 : c < 256) (_ : EntIn o) : PCall Go.Proofs.Try.prog 10 [avA a, .p (.val (.int .u16 (d : Int))), .p (.val (.int .u8 (c : Int))), avE o] (bl true) := by
  refine pcall_mk (v := []) (q := []) (N := 149) (rs := [.tmp 8]) Go.Proofs.Try.func10 rfl rfl rfl rfl rfl ?_
  have hin' := in_of hin
  have hwr : IntKind.i64.wrap (d : Int) = (d : Int) := wrap64 (by omega) (by omega)
  have hwr2 : IntKind.i64.wrap (c : Int) = (c : Int) := wrap64 (by omega) (by omega)
  have htk0 : (a.entries.map encE).take a.entries.length = a.entries.map encE := List.take_of_length_le (by simp)
  have pN : playN a d = .tup [isl (unitsN a d), if isTruth a (unitsN a d) = true then isl (debtsS a (unitsN a d) []).1 else nilS, bl (isTruth a (unitsN a d)), bl true] := rfl
  cases hr : readyS a <;> by_cases hlen : (a.entries.length : Int) = 0 <;> cases hd : isTruth a (unitsN a d)
  all_goals
    first
    | (have hrr : thinS a = true ∧ faultS a = 0 := by simpa [readyS] using hr
       obtain ⟨ht, hf⟩ := hrr
       obtain ⟨hl1, hl2⟩ := thin_len ht
       have hla := last_in hf
       have hm : ((a.last + 1).toNat : Int) = a.last + 1 := Int.toNat_of_nonneg (by omega)
       have hdl := debts_full (a := a) (unitsN a d) []
       have htl : (unitsN a d).length = a.entries.length := nth_len _ _
       have hls : listedS a.entries (unitsN a d) = true := by rw [← listed_eq]; exact nth_listed (lo_le hf))
    | (have hf := hwr; have hm := hwr; have hdl := hwr; have htl := hwr)
    first
    | (have hkm : c % a.entries.length < a.entries.length := Nat.mod_lt _ (by omega)
       have hmod : (c : Int) % (a.entries.length : Int) = ((c % a.entries.length : Nat) : Int) := by rw [Int.natCast_emod]
       generalize c % a.entries.length = k at hkm hmod
       have hsh := shl1 (n := k) (by omega)
       have hpx2 : 2 ^ k < 65536 := Nat.pow_lt_pow_right (n := 16) (by decide) (by omega)
       have hwx : IntKind.i64.wrap ((2 ^ k : Nat) : Int) = ((2 ^ k : Nat) : Int) := by generalize 2 ^ k = z at hpx2 ⊢; exact wrap64 (by omega) (by omega)
       have hs1 : (a.entries.map encE).set k [iv o.kind, iv (getE a.entries k).day, iv o.lo, iv o.hi, iv o.pence] = (otA a k o).entries.map encE := by show (a.entries.map encE).set k (encE (otE a k o)) = _; exact List.map_set.symm
       have htk : ((otA a k o).entries.map encE).take a.entries.length = (otA a k o).entries.map encE := List.take_of_length_le (by simp)
       have hfy := fault_woR hf (2 ^ k)
       have pY := playA_eq (withoutR a (2 ^ k)) ((unitsN a d).eraseIdx k)
       have hly : listedS (withoutR a (2 ^ k)).entries ((unitsN a d).eraseIdx k) = true := by rw [wo_k]; exact listed_erase hls
       rw [if_pos hfy, if_pos hly] at pY
       have pX := playA_eq (otA a k o) ((unitsN a d).set k o.lo)
       have sY := same_erase hf htl hkm
       have sX := same_set hf htl hkm o o.lo
       have hty : (withoutR a (2 ^ k)).entries.length ≤ 8 := (fault_zero hfy).2.1
       have hev : ((unitsN a d).eraseIdx k).length ≤ (unitsN a d).length := by rw [List.length_eraseIdx]; split <;> omega
       have he1 : ((unitsN a d).map encI).take k = ((unitsN a d).take k).map encI := List.map_take.symm
       have hkn : ((k : Int) + 1).toNat = k + 1 := by omega
       have htkU : ((unitsN a d).map encI).take a.entries.length = (unitsN a d).map encI := List.take_of_length_le (by simp; omega)
       have he0 : ((unitsN a d).map encI).drop (k + 1) = ((unitsN a d).drop (k + 1)).map encI := List.map_drop.symm
       have he2 : ((unitsN a d).take k).map encI ++ ((unitsN a d).drop (k + 1)).map encI = ((unitsN a d).eraseIdx k).map encI := by rw [List.eraseIdx_eq_take_drop_succ, List.map_append]
       have hel : ((unitsN a d).eraseIdx k).length = k + (a.entries.length - (k + 1)) := by rw [List.length_eraseIdx, if_pos (by omega)]; omega
       have htkV : (((unitsN a d).eraseIdx k).map encI).take (k + (a.entries.length - (k + 1))) = ((unitsN a d).eraseIdx k).map encI := List.take_of_length_le (by rw [List.length_map, hel]; exact Nat.le_refl _)
       have htkS : (((unitsN a d).set k o.lo).map encI).take a.entries.length = ((unitsN a d).set k o.lo).map encI := List.take_of_length_le (by simp; omega)
       have hmY : (debtsS (withoutR a (2 ^ k)) ((unitsN a d).eraseIdx k) []).1.length < 1000000 := by rw [debts_full]; show (a.last + 1).toNat < 1000000; omega
       have hmX : (debtsS (otA a k o) ((unitsN a d).set k o.lo) []).1.length < 1000000 := by rw [debts_full]; show (a.last + 1).toNat < 1000000; omega
       cases hY : (debtsS (withoutR a (2 ^ k)) ((unitsN a d).eraseIdx k) []).2 <;> by_cases hfx : faultS (otA a k o) = 0 <;> cases hX : (debtsS (otA a k o) ((unitsN a d).set k o.lo) []).2)
    | (have hmod := hwr; have hsh := hwr; have hwx := hwr; have hs1 := hwr; have htk := hwr; have pY := hwr; have pX := hwr; have sY := hwr; have sX := hwr; have he1 := hwr; have he2 := hwr; have he0 := hwr; have hkn := hwr; have hel := hwr; have htkV := hwr; have htkS := hwr; have htkU := hwr; have hY := hwr; have hfx := hwr; have hX := hwr)
  all_goals
    first
    | (have hlx := ot_listed hkm hfx hls
       have hin2 := valid_in hfx)
    | (have hlx := hwr; have hin2 := hwr)
  all_goals
    refine awp_seq_k fun K1 hK1 => ?_
    refine awp_ops ?_
    simp (disch := omega) only [amL, sA, sB, sF, ↓reduceIte, reduceCtorEq]
    refine hK1 _ ?_
    refine awp_seq_k fun K2 hK2 => ?_
    refine awp_seq_k fun K3 hK3 => ?_
    refine awp_ops ?_
    simp (disch := omega) only [amL, amT, sA, sB, sF, ↓reduceIte]
    repeat' first | (refine EG_dec (fun h => ?_) (fun h => ?_) <;> simp (disch := omega) only [h, pN, pY, pX, hlx, sY, sX, hY, hX, hr, hf, hm, hdl, htl, hlen, hd, hwr, hwr2, hmod, wrapU, hsh, hwx, hfx, htk0, encE_all, encE_getD, EO_slice26, fSlP_sl, fSlQ_some, bound_none, bound_some, bnd1_int, ne_eq, amL, amT, sA, sB, sC, sD, sE, sF, sG, sH, sI, sJ, sK, sL, sM, sN, sO, ↓reduceIte, reduceCtorEq]) | (refine EG_cases (fun h => ?_) (fun h => ?_) <;> simp (disch := omega) only [h, pN, pY, pX, hlx, sY, sX, hY, hX, hr, hf, hm, hdl, htl, hlen, hd, hwr, hwr2, hmod, wrapU, hsh, hwx, hfx, htk0, encE_all, encE_getD, EO_slice26, fSlP_sl, fSlQ_some, bound_none, bound_some, bnd1_int, ne_eq, amL, amT, sA, sB, sC, sD, sE, sF, sG, sH, sI, sJ, sK, sL, sM, sN, sO, ↓reduceIte, reduceCtorEq]) | (refine EC_intro (by kernel_rfl) rfl (c46 a) (by first | exact .inl rfl | exact .inr (.inl rfl)) ?_ ; simp (disch := omega) only [hr, hlen, amL, amT, sA, sF, ↓reduceIte, reduceCtorEq])
    all_goals
     skip
     refine hK3 _ ?_
     refine awp_cond rfl (fun h => ?_) (fun h => ?_)
     ·first
      | exact Bool.noConfusion h
      |skip
       try simp only [] at h
       refine awp_seq_k fun K4 hK4 => ?_
       refine awp_ops ?_
       simp (disch := omega) only [amL]
       repeat' first | (refine EC_intro (by kernel_rfl) rfl (c20) (by first | exact .inl rfl | exact .inr (.inl rfl)) ?_ ; simp (disch := omega) only [amL, sA, ↓reduceIte])
       refine hK4 _ ?_
       refine awp_ret ?_
       try simp (disch := omega) only [amL, ↓reduceIte]
       all_goals first | rfl | (omega)
     ·first
      | exact Bool.noConfusion h
      |skip
       try simp only [] at h
       refine awp_skip ?_
       refine hK2 _ ?_
       refine awp_seq_k fun K5 hK5 => ?_
       refine awp_ops ?_
       simp (disch := omega) only [hlen, hwr2, hmod, amL, amT, sA, sF, ↓reduceIte, reduceCtorEq]
       refine hK5 _ ?_
       refine awp_seq_k fun K6 hK6 => ?_
       refine awp_ops ?_
       simp (disch := omega) only [encE_getD, amL, amT, sA, sB, sE, sF, ↓reduceIte, reduceCtorEq]
       refine hK6 _ ?_
       refine awp_seq_k fun K7 hK7 => ?_
       refine awp_ops ?_
       simp (disch := omega) only [amL, amT, sA, sB, sF, ↓reduceIte]
       refine hK7 _ ?_
       refine awp_seq_k fun K8 hK8 => ?_
       refine awp_ops ?_
       simp (disch := omega) only [encE_all, amL, amT, sA, sB, sF, ↓reduceIte, reduceCtorEq]
       refine hK8 _ ?_
       refine awp_seq_k fun K9 hK9 => ?_
       refine awp_ops ?_
       simp (disch := omega) only [hs1, encE_getD, amL, amT, sA, sB, sF, ↓reduceIte, reduceCtorEq]
       refine hK9 _ ?_
       refine awp_seq_k fun K10 hK10 => ?_
       refine awp_ops ?_
       simp (disch := omega) only [wrapU, hsh, hwx, amL, amT, sA, sB, sF, ↓reduceIte]
       repeat' first | (refine EC_intro (by kernel_rfl) rfl (c51 a (2 ^ k) (by omega)) (by first | exact .inl rfl | exact .inr (.inl rfl)) ?_ ; simp (disch := omega) only [amL, amT, sA, sB, sF, ↓reduceIte])
       refine hK10 _ ?_
       refine awp_seq_k fun K11 hK11 => ?_
       refine awp_ops ?_
       simp (disch := omega) only [hlx, hwr, amL, amT, sA, sB, sF, ↓reduceIte, reduceCtorEq]
       repeat' first | (refine EC_intro (by kernel_rfl) rfl (c47 a d hf ht hin (by omega) (by omega)) (by first | exact .inl rfl | exact .inr (.inl rfl)) ?_ ; simp (disch := omega) only [pN, hd, amL, sA, sF, ↓reduceIte])
       refine hK11 _ ?_
       refine awp_seq_k fun K12 hK12 => ?_
       refine awp_seq_k fun K13 hK13 => ?_
       refine awp_ops ?_
       simp (disch := omega) only [amL, sA, sF, ↓reduceIte]
       repeat' first | (refine EG_dec (fun h => ?_) (fun h => ?_) <;> simp (disch := omega) only [h, pN, pY, pX, hlx, sY, sX, hY, hX, hr, hf, hm, hdl, htl, hlen, hd, hwr, hwr2, hmod, wrapU, hsh, hwx, hfx, htk0, encE_all, encE_getD, EO_slice26, fSlP_sl, fSlQ_some, bound_none, bound_some, bnd1_int, ne_eq, amL, amT, sA, sB, sC, sD, sE, sF, sG, sH, sI, sJ, sK, sL, sM, sN, sO, ↓reduceIte, reduceCtorEq]) | (refine EG_cases (fun h => ?_) (fun h => ?_) <;> simp (disch := omega) only [h, pN, pY, pX, hlx, sY, sX, hY, hX, hr, hf, hm, hdl, htl, hlen, hd, hwr, hwr2, hmod, wrapU, hsh, hwx, hfx, htk0, encE_all, encE_getD, EO_slice26, fSlP_sl, fSlQ_some, bound_none, bound_some, bnd1_int, ne_eq, amL, amT, sA, sB, sC, sD, sE, sF, sG, sH, sI, sJ, sK, sL, sM, sN, sO, ↓reduceIte, reduceCtorEq])
       all_goals
        skip
        refine hK13 _ ?_
        refine awp_cond rfl (fun h => ?_) (fun h => ?_)
        ·first
         | exact Bool.noConfusion h
         |skip
          try simp only [] at h
          refine awp_seq_k fun K14 hK14 => ?_
          refine awp_ops ?_
          simp (disch := omega) only [amL, sA, sF, ↓reduceIte]
          repeat' first | (refine EG_dec (fun h => ?_) (fun h => ?_) <;> simp (disch := omega) only [h, pN, pY, pX, hlx, sY, sX, hY, hX, hr, hf, hm, hdl, htl, hlen, hd, hwr, hwr2, hmod, wrapU, hsh, hwx, hfx, htk0, encE_all, encE_getD, EO_slice26, fSlP_sl, fSlQ_some, bound_none, bound_some, bnd1_int, ne_eq, amL, amT, sA, sB, sC, sD, sE, sF, sG, sH, sI, sJ, sK, sL, sM, sN, sO, ↓reduceIte, reduceCtorEq]) | (refine EG_cases (fun h => ?_) (fun h => ?_) <;> simp (disch := omega) only [h, pN, pY, pX, hlx, sY, sX, hY, hX, hr, hf, hm, hdl, htl, hlen, hd, hwr, hwr2, hmod, wrapU, hsh, hwx, hfx, htk0, encE_all, encE_getD, EO_slice26, fSlP_sl, fSlQ_some, bound_none, bound_some, bnd1_int, ne_eq, amL, amT, sA, sB, sC, sD, sE, sF, sG, sH, sI, sJ, sK, sL, sM, sN, sO, ↓reduceIte, reduceCtorEq]) | (refine EC_intro (by kernel_rfl) rfl (c20) (by first | exact .inl rfl | exact .inr (.inl rfl)) ?_ ; simp (disch := omega) only [amL, sA, sF, ↓reduceIte])
          all_goals
           skip
           refine hK14 _ ?_
           refine awp_ret ?_
           try simp (disch := omega) only [amL, ↓reduceIte]
           all_goals first | rfl | (omega)
        ·first
         | exact Bool.noConfusion h
         |skip
          try simp only [] at h
          refine awp_skip ?_
          refine hK12 _ ?_
          refine awp_seq_k fun K15 hK15 => ?_
          refine awp_ops ?_
          simp (disch := omega) only [amL, sA, sF, ↓reduceIte]
          repeat' first | (refine EN_intro (by kernel_rfl) (by decide) (by first | exact n23 (unitsN a d) (by omega) | exact n23 ((unitsN a d).take k) (by simp; omega)) (by simp (disch := omega) only [amL, sF, ↓reduceIte]) ?_ ; simp (disch := omega) only [htl, amL, sA, ↓reduceIte])
          refine hK15 _ ?_
          refine awp_seq_k fun K16 hK16 => ?_
          refine awp_ops ?_
          simp (disch := omega) only [set_encI, htl, amL, amT, sA, sF, ↓reduceIte, reduceCtorEq]
          refine hK16 _ ?_
          refine awp_seq_k fun K17 hK17 => ?_
          refine awp_any2 (by kernel_rfl) (by kernel_rfl) ?_
          simp (disch := omega) only [he1, isl_all, List.length_map, htl, EO_slice26, fSlP_sl, fSlQ_some, bound_none, bound_some, bnd1_int, amL, amT, sA, sF, sL, sN, ↓reduceIte]
          repeat' first | (refine EN_intro (by kernel_rfl) (by decide) (by first | exact n23 (unitsN a d) (by omega) | exact n23 ((unitsN a d).take k) (by simp; omega)) (by simp (disch := omega) only [amL, sF, ↓reduceIte]) ?_ ; simp (disch := omega) only [he2, he0, hkn, htkU, isl_all, List.length_map, List.length_drop, htl, EO_slice26, fSlP_sl, fSlQ_some, bound_none, bound_some, bnd1_int, amL, amT, sA, sF, ↓reduceIte])
          refine hK17 _ ?_
          refine awp_seq_k fun K18 hK18 => ?_
          refine awp_ops ?_
          simp (disch := omega) only [amL, amT, sA, sB, sF, ↓reduceIte]
          repeat' first | (refine EF_intro (by kernel_rfl) rfl (by first | exact c22f (withoutR a (2 ^ k)) (Nat.lt_of_le_of_lt hl1 (by decide)) (by omega) | exact c22f (otA a k o) (Nat.lt_of_le_of_lt hl1 (by decide)) (by simp; omega)) ?_ ; simp (disch := omega) only [hel, htkV, amL, sA, sF, ↓reduceIte]) | (refine EF_intro (by kernel_rfl) rfl (by first | exact c21f (withoutR a (2 ^ k)) ((unitsN a d).eraseIdx k) (Nat.lt_of_le_of_lt hl1 (by decide)) (by omega) (by omega) (valid_in hfy) | exact c21f (otA a k o) ((unitsN a d).set k o.lo) (Nat.lt_of_le_of_lt hl1 (by decide)) (by simp; omega) (by simp; omega) hin2) ?_ ; simp (disch := omega) only [pY, hY, amL, sA, sF, ↓reduceIte])
          refine hK18 _ ?_
          refine awp_seq_k fun K19 hK19 => ?_
          refine awp_seq_k fun K20 hK20 => ?_
          refine awp_ops ?_
          simp (disch := omega) only [ne_eq, amL, amT, sA, sF, sO, ↓reduceIte, reduceCtorEq]
          repeat' first | (refine EG_dec (fun h => ?_) (fun h => ?_) <;> simp (disch := omega) only [h, pN, pY, pX, hlx, sY, sX, hY, hX, hr, hf, hm, hdl, htl, hlen, hd, hwr, hwr2, hmod, wrapU, hsh, hwx, hfx, htk0, encE_all, encE_getD, EO_slice26, fSlP_sl, fSlQ_some, bound_none, bound_some, bnd1_int, ne_eq, amL, amT, sA, sB, sC, sD, sE, sF, sG, sH, sI, sJ, sK, sL, sM, sN, sO, ↓reduceIte, reduceCtorEq]) | (refine EG_cases (fun h => ?_) (fun h => ?_) <;> simp (disch := omega) only [h, pN, pY, pX, hlx, sY, sX, hY, hX, hr, hf, hm, hdl, htl, hlen, hd, hwr, hwr2, hmod, wrapU, hsh, hwx, hfx, htk0, encE_all, encE_getD, EO_slice26, fSlP_sl, fSlQ_some, bound_none, bound_some, bnd1_int, ne_eq, amL, amT, sA, sB, sC, sD, sE, sF, sG, sH, sI, sJ, sK, sL, sM, sN, sO, ↓reduceIte, reduceCtorEq]) | (refine EC_intro (by kernel_rfl) rfl (c52 _ _ _ (by omega) (by omega)) (by first | exact .inl rfl | exact .inr (.inl rfl)) ?_ ; simp (disch := omega) only [sY, amL, sA, sF, ↓reduceIte])
          all_goals
           skip
           refine hK20 _ ?_
           refine awp_cond rfl (fun h => ?_) (fun h => ?_)
           ·first
            | exact Bool.noConfusion h
            |skip
             try simp only [Bool.not_eq_true', decide_eq_true_eq, decide_eq_false_iff_not, Bool.and_eq_true, Bool.not_eq_false', Bool.not_not, decide_not, Bool.not_true, Bool.not_false] at h
             refine awp_seq_k fun K21 hK21 => ?_
             refine awp_ops ?_
             simp (disch := omega) only [pN, pY, pX, hlx, sY, sX, hY, hX, hr, hf, hm, hdl, htl, hlen, hd, hwr, hwr2, hmod, wrapU, hsh, hwx, hfx, htk0, encE_all, encE_getD, EO_slice26, fSlP_sl, fSlQ_some, bound_none, bound_some, bnd1_int, ne_eq, amL, amT, sA, sB, sC, sD, sE, sF, sG, sH, sI, sJ, sK, sL, sM, sN, sO, ↓reduceIte, reduceCtorEq]
             refine hK21 _ ?_
             refine awp_ret ?_
             try simp (disch := omega) only [pN, pY, pX, hlx, sY, sX, hY, hX, hr, hf, hm, hdl, htl, hlen, hd, hwr, hwr2, hmod, wrapU, hsh, hwx, hfx, htk0, encE_all, encE_getD, EO_slice26, fSlP_sl, fSlQ_some, bound_none, bound_some, bnd1_int, ne_eq, amL, amT, sA, sB, sC, sD, sE, sF, sG, sH, sI, sJ, sK, sL, sM, sN, sO, ↓reduceIte, reduceCtorEq]
             all_goals first | rfl | (omega)
           ·first
            | exact Bool.noConfusion h
            |skip
             try simp only [] at h
             refine awp_skip ?_
             refine hK19 _ ?_
             refine awp_seq_k fun K22 hK22 => ?_
             refine awp_seq_k fun K23 hK23 => ?_
             refine awp_ops ?_
             simp (disch := omega) only [htk, List.length_set, amL, amT, sA, sB, sF, ↓reduceIte]
             repeat' first | (refine EC_intro (by kernel_rfl) rfl (c24 (otA a k o) (Nat.lt_of_le_of_lt hl1 (by decide)) (by simp; omega)) (by first | exact .inl rfl | exact .inr (.inl rfl)) ?_ ; simp (disch := omega) only [hfx, ne_eq, amL, amT, sA, ↓reduceIte])
             refine hK23 _ ?_
             refine awp_cond rfl (fun h => ?_) (fun h => ?_)
             ·first
              | exact Bool.noConfusion h
              |skip
               try simp only [] at h
               refine awp_seq_k fun K24 hK24 => ?_
               refine awp_ops ?_
               simp (disch := omega) only [amL]
               repeat' first | (refine EC_intro (by kernel_rfl) rfl (c20) (by first | exact .inl rfl | exact .inr (.inl rfl)) ?_ ; simp (disch := omega) only [amL, sA, ↓reduceIte])
               refine hK24 _ ?_
               refine awp_ret ?_
               try simp (disch := omega) only [amL, ↓reduceIte]
               all_goals first | rfl | (omega)
             ·first
              | exact Bool.noConfusion h
              |skip
               try simp only [] at h
               refine awp_skip ?_
               refine hK22 _ ?_
               refine awp_seq_k fun K25 hK25 => ?_
               refine awp_ops ?_
               simp (disch := omega) only [htk, List.length_set, amL, amT, sA, sB, sF, ↓reduceIte]
               repeat' first | (refine EF_intro (by kernel_rfl) rfl (by first | exact c22f (withoutR a (2 ^ k)) (Nat.lt_of_le_of_lt hl1 (by decide)) (by omega) | exact c22f (otA a k o) (Nat.lt_of_le_of_lt hl1 (by decide)) (by simp; omega)) ?_ ; simp (disch := omega) only [htkS, List.length_set, htl, amL, sA, sF, ↓reduceIte]) | (refine EF_intro (by kernel_rfl) rfl (by first | exact c21f (withoutR a (2 ^ k)) ((unitsN a d).eraseIdx k) (Nat.lt_of_le_of_lt hl1 (by decide)) (by omega) (by omega) (valid_in hfy) | exact c21f (otA a k o) ((unitsN a d).set k o.lo) (Nat.lt_of_le_of_lt hl1 (by decide)) (by simp; omega) (by simp; omega) hin2) ?_ ; simp (disch := omega) only [pX, hlx, hX, hfx, amL, sA, sF, ↓reduceIte])
               refine hK25 _ ?_
               refine awp_seq_k fun K26 hK26 => ?_
               refine awp_ops ?_
               simp (disch := omega) only [amL, amT, sA, sF, sO, ↓reduceIte, reduceCtorEq]
               repeat' first | (refine EG_dec (fun h => ?_) (fun h => ?_) <;> simp (disch := omega) only [h, pN, pY, pX, hlx, sY, sX, hY, hX, hr, hf, hm, hdl, htl, hlen, hd, hwr, hwr2, hmod, wrapU, hsh, hwx, hfx, htk0, encE_all, encE_getD, EO_slice26, fSlP_sl, fSlQ_some, bound_none, bound_some, bnd1_int, ne_eq, amL, amT, sA, sB, sC, sD, sE, sF, sG, sH, sI, sJ, sK, sL, sM, sN, sO, ↓reduceIte, reduceCtorEq]) | (refine EG_cases (fun h => ?_) (fun h => ?_) <;> simp (disch := omega) only [h, pN, pY, pX, hlx, sY, sX, hY, hX, hr, hf, hm, hdl, htl, hlen, hd, hwr, hwr2, hmod, wrapU, hsh, hwx, hfx, htk0, encE_all, encE_getD, EO_slice26, fSlP_sl, fSlQ_some, bound_none, bound_some, bnd1_int, ne_eq, amL, amT, sA, sB, sC, sD, sE, sF, sG, sH, sI, sJ, sK, sL, sM, sN, sO, ↓reduceIte, reduceCtorEq]) | (refine EC_intro (by kernel_rfl) rfl (c52 _ _ _ (by omega) (by omega)) (by first | exact .inl rfl | exact .inr (.inl rfl)) ?_ ; simp (disch := omega) only [sX, amL, sA, sF, ↓reduceIte]) | (refine EC_intro (by kernel_rfl) rfl (c20) (by first | exact .inl rfl | exact .inr (.inl rfl)) ?_ ; simp (disch := omega) only [amL, sA, sF, ↓reduceIte])
               all_goals
                skip
                refine hK26 _ ?_
                refine awp_ret ?_
                try simp (disch := omega) only [amL, ↓reduceIte]
                all_goals first | rfl | (omega)
end AM.Try
end
