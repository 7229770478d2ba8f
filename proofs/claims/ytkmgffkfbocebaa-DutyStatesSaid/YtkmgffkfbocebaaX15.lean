/- Lemmas for the proof: more of the program's functions, walked on the abstract machine. -/
import Derived.Test.YtkmgffkfbocebaaP5
import Derived.Test.YtkmgffkfbocebaaRows
import Derived.ProofKit
import Derived.Deep.Slices
import Derived.ChangeStays
/- The reference: truths. -/
section
namespace AM.Try
open Go AM AM.Duty
open Nat renaming reduceLT → sA, reduceAdd → sB, reduceMul → sC, reduceSub → sD, reduceLeDiff → sE, reduceEqDiff → sF, reduceBEq → sG
open Int renaming reduceAdd → sH, reduceSub → sI, reduceMul → sJ, reduceLT → sK, reduceLE → sL, reduceNeg → sM, reduceToNat → sN, reduceEq → sO
set_option maxHeartbeats 4000000
def isTruth (a : Acc) (t : List Int) : Bool := (debtsS a t []).2
def nthT (a : Acc) (n : Nat) : List Int := nthS a.entries (n : Int)
theorem valid_small {a : Acc} (h : faultS a = 0) : smallE a.entries := small_of_all (last := a.last) (by have := fault_zero h; omega) (fault_zero h).2.2.2.2.1
theorem sizes_nat {a : Acc} (h : faultS a = 0) : ((sizes a.entries).toNat : Int) = sizes a.entries ∧ sizes a.entries ≤ 1000 := by
  have h1 := sizes_lt (valid_small h) (Nat.le_refl _)
  rw [List.take_length] at h1
  have := fault_zero h
  omega
def manyT (a : Acc) : Nat := (sizes a.entries).toNat
end AM.Try
end
/- The statements: what is read of the arguments is what the walks take; what a pure call leaves is what the statements ask. -/
section
namespace AM.Try
set_option maxRecDepth 100000
open Go AM AM.Duty Go.ChangeShapes Go.WideShapes Go.ChangeAt Go.RowKit
noncomputable abbrev TP : Program := Go.Proofs.Try.prog
theorem tp_laid : laidOutB TP = true := by kernel_rfl
theorem tp_maps : mapsRowed TP = true := by kernel_rfl
theorem tp_kids : Kids TP (· < TP.types.size) := kids_rows tp_laid tp_maps
theorem tp_full : ∀ t e, t < TP.types.size → TP.underlying t = some (.slice e) → 0 < TP.cellsOf e := slices_full_of TP (by kernel_rfl)
theorem tp_own : ownKnob TP.godebug = none := by kernel_rfl
section
variable {H : Type} {enc : TypeId × Value → H} {W W' : World}
theorem same_at (hk : Keeps (fun b => W.heap.size ≤ b) W W') {p : MemPlace} (hp : p.block < W.heap.size) : W.sameAt W' p := by
  have h := hk.same p.block hp (by omega)
  cases p with
  | cell b off => simp only [World.sameAt, World.cell?]; rw [show W'.heap[b]? = W.heap[b]? from h]
  | map b => exact h
theorem reads_again (hk : Keeps (fun b => W.heap.size ≤ b) W W') (sp : Nat → Bool) : ∀ {ts : List TypeId} {vs : List Value} {ds : List (DataW H)} {p : List MemPlace},
    (∀ t ∈ ts, t < TP.types.size) → DataW.TrodAll enc TP W 0 (fun _ => true) true ts vs ds p → (∀ x ∈ p, x.block < W.heap.size) → (∀ x ∈ p, sp x.block = true) → DataW.TrodAll enc TP W' 0 sp true ts vs ds p
  | [], [], [], _, _, h, _, _ => h
  | _ :: _, _ :: _, _ :: _, _, hT, ⟨p, q, ⟨n, h1⟩, h2, e⟩, hl, hs =>
    ⟨p, q, ⟨n, DataW.trod_stays tp_kids (fun ht hu => tp_full _ _ ht hu) (fun h => by cases h) (hT _ (List.mem_cons.2 (Or.inl rfl))) h1 (fun x hx => same_at hk (hl x (by rw [e]; exact List.mem_append_left _ hx))) (fun x hx => hs x (by rw [e]; exact List.mem_append_left _ hx))⟩,
      reads_again hk sp (fun t ht => hT t (List.mem_cons.2 (Or.inr ht))) h2 (fun x hx => hl x (by rw [e]; exact List.mem_append_right _ hx)) (fun x hx => hs x (by rw [e]; exact List.mem_append_right _ hx)), e⟩
theorem kept_of_keeps (hk : Keeps (fun b => W.heap.size ≤ b) W W') (may : MemPlace → Prop) : W.keptBut W' may := by
  refine ⟨hk.os, hk.output, fun i hi => ?_⟩
  have h := hk.same i hi (by omega)
  rw [h]
  cases W.heap[i]? with
  | none => rfl
  | some o => cases o <;> first | exact ⟨rfl, rfl, rfl, fun _ _ => rfl⟩ | exact .inr ⟨rfl, rfl⟩ | rfl
theorem law_post {fn : Func} {s : ChangeSpec} {args : Array Value} {ds gs : List (DataW H)} {before : List MemPlace} (hr : fn.resultTypes = #[4]) (hp : ∀ t ∈ fn.params.toList, t < TP.types.size) (hv : s.vars = [])
    (hfn : s.fn H (ds ++ gs) = { results := [.lit (.bool true)], args := ds }) (hW : DataW.Whole enc TP fn.params.toList s.vars false W args.toList ds gs before) (hk : Keeps (fun b => W.heap.size ≤ b) W W') :
    s.post enc TP fn false true false false W args (.bool true) W' := by
  have hW0 := hW
  obtain ⟨p, q, hA, hV, rfl, hz, hn⟩ := hW
  rw [hv] at hV
  obtain ⟨rfl, rfl⟩ := trodVars_none hV
  have hlt : ∀ x ∈ p, x.block < W.heap.size := hA.lt
  refine ⟨ds, [], p ++ [], [], p, [], hW0, ?_, ?_, ?_, World.keptBut_mono (fun x hx => ⟨hx, .inr (.inl (by simpa using hx))⟩) (kept_of_keeps hk _), fun h => by cases h⟩
  · rw [hfn, hr]; exact trodAll_mk1 (shut_bool Go.Proofs.Try.underlying4 true)
  · rw [hfn]; exact reads_again hk _ hp hA hlt (fun x hx => by simpa using hlt x hx)
  · rw [hfn, hv]; rfl
theorem law_calls {f : FuncId} {avs : List AV} {fn : Func} {s : ChangeSpec} {args : Array Value} {ds gs : List (DataW H)} {before : List MemPlace} (hc : PCall TP f avs (bl true)) (hsz : args.size = avs.length) (hrel : ∀ θ (i : Nat) (x : AV), avs[i]? = some x → ARel θ (fun _ => False) W x (args.getD i undef))
    (hr : fn.resultTypes = #[4]) (hp : ∀ t ∈ fn.params.toList, t < TP.types.size) (hv : s.vars = []) (hfn : s.fn H (ds ++ gs) = { results := [.lit (.bool true)], args := ds }) (hW : DataW.Whole enc TP fn.params.toList s.vars false W args.toList ds gs before) :
    Calls TP f args W fun e W' => ∃ v, e = .returned v ∧ s.post enc TP fn false true false false W args v W' := by
  refine (hc.2 (fun _ => ⟨0, 0, true⟩) (fun _ => False) W args (fun b h => h.elim) hsz (fun i x hx => hrel _ i x hx)).mono ?_
  rintro e W' ⟨v, rfl, hv', hk⟩
  cases hv' with
  | p _ _ h =>
    cases h with
    | val _ _ => exact ⟨_, rfl, law_post hr hp hv hfn hW hk⟩
theorem prel_rows {rows : List (List Int)} {b o len cap k : Nat} (hlen : rows.length = len) (hc : len ≤ cap) (hk : ∀ r ∈ rows, r.length = k)
    (hcell : ∀ (i : Nat) (r : List Int) (j : Nat) (m : Int), rows[i]? = some r → r[j]? = some m → W.cell? ⟨b, o + (i * k + j), none⟩ = some (.int .i64 m)) : PRel (fun _ => False) W (.sl (rows.map fun r => r.map iv)) (.slice (some ⟨b, o, none⟩) len cap) := by
  have h := PRel.sl (M := fun _ => False) (w := W) (rows.map fun r => r.map iv) b o cap k (fun i j => (W.cell? ⟨b, o + (i * k + j), none⟩).getD undef) (fun i e he => ?_) (by rw [List.length_map, hlen]; exact hc) (fun i e j x he hx => ?_) (fun i e j x he hx => ?_)
  · rw [List.length_map, hlen] at h; exact h
  · simp only [List.getElem?_map, Option.map_eq_some_iff] at he
    obtain ⟨r, hr, rfl⟩ := he
    rw [List.length_map]; exact hk r (List.mem_of_getElem? hr)
  all_goals
    simp only [List.getElem?_map, Option.map_eq_some_iff] at he
    obtain ⟨r, hr, rfl⟩ := he
    simp only [List.getElem?_map, Option.map_eq_some_iff] at hx
    obtain ⟨m, hm, rfl⟩ := hx
    have hc := hcell i r j m hr hm
    rw [hc]
  · exact ⟨fun h => h, rfl⟩
  · exact .val _ rfl
theorem inR_wf {m : Int} (h : (Lit.int .i64 m).wf = true) : inR m = true := by
  simp only [Lit.wf, IntKind.min, IntKind.max, IntKind.signed, IntKind.bits, Bool.and_eq_true, decide_eq_true_eq] at h
  simp only [inR, Bool.and_eq_true, decide_eq_true_eq]
  constructor <;> simp_all
theorem add_none {b o i : Nat} : Addr.add ⟨b, o, none⟩ i = ⟨b, o + i, none⟩ := by
  unfold Addr.add
  split
  · rename_i h; simp_all
  · rfl
theorem open_recs {t e k fuel : Nat} {cs : List Value} {x : DataW H × List MemPlace} (ht : TP.underlying t = some (.slice e)) (hk : TP.cellsOf e = k)
    (hel : ∀ n cs x, DataW.trod enc TP W 0 (fun _ => true) true n e cs = some x → ∃ ms : List Int, cs = ms.map (fun m => Value.int .i64 m) ∧ ms.length = k ∧ ∀ m ∈ ms, inR m = true)
    (h : DataW.trod enc TP W 0 (fun _ => true) true fuel t cs = some x) (hsp : ∀ a len cap, cs = [.slice (some a) len cap] → a.spot = none) :
    ∃ rows : List (List Int), (∀ r ∈ rows, r.length = k ∧ ∀ m ∈ r, inR m = true) ∧ ∃ v, cs = [v] ∧ PRel (fun _ => False) W (.sl (rows.map fun r => r.map iv)) v := by
  rcases Go.Deep.open_slice ht h with ⟨rfl, _⟩ | ⟨a, len, cap, m, n, D, Pl, rfl, _, hl, hm, hmm, _, hi⟩
  · exact ⟨[], by simp, _, rfl, .nil⟩
  · have hs := hsp a len cap rfl
    obtain ⟨b, o, sp⟩ := a
    dsimp only at hs; subst hs
    simp only [if_true] at hmm
    subst hmm
    obtain ⟨F, hF⟩ := Go.Deep.choose_lt (α := List Int) (n := m) (p := fun i ms => W.cells? 0 (Addr.add ⟨b, o, none⟩ (i * k)) k = some (ms.map fun m => Value.int .i64 m) ∧ ms.length = k ∧ ∀ m ∈ ms, inR m = true) (fun i h1 => by
      obtain ⟨cs', h2, h3⟩ := hi i h1
      obtain ⟨ms, rfl, h4, h5⟩ := hel _ _ _ h3
      rw [hk] at h2
      exact ⟨ms, h2, h4, h5⟩)
    refine ⟨(List.range len).map F, fun r hr => ?_, _, rfl, prel_rows (k := k) (by simp) hl (fun r hr => ?_) (fun i r j m hr hm => ?_)⟩
    · obtain ⟨i, h1, rfl⟩ := List.mem_map.1 hr
      exact (hF i (by have := List.mem_range.1 h1; omega)).2
    · obtain ⟨i, h1, rfl⟩ := List.mem_map.1 hr
      exact (hF i (by have := List.mem_range.1 h1; omega)).2.1
    · simp only [List.getElem?_map, Option.map_eq_some_iff] at hr
      obtain ⟨i', h1, rfl⟩ := hr
      have hlt : i < len := by
        have := (List.getElem?_eq_some_iff.1 h1).1; simpa using this
      have e : i' = i := by
        rw [List.getElem?_range hlt] at h1; exact (Option.some.inj h1).symm
      subst e
      obtain ⟨h2, h3, _⟩ := hF i' (by omega)
      obtain ⟨_, _, h4⟩ := World.cells?_some h2
      have hj : j < k := by rw [← h3]; exact (List.getElem?_eq_some_iff.1 hm).1
      have h5 := h4 j hj
      rw [List.getElem?_map, hm] at h5
      rw [add_none, add_none, Nat.add_assoc] at h5
      exact h5
theorem el3 (n : Nat) (cs : List Value) (x : DataW H × List MemPlace) (h : DataW.trod enc TP W 0 (fun _ => true) true n 3 cs = some x) : ∃ ms : List Int, cs = ms.map (fun m => Value.int .i64 m) ∧ ms.length = 1 ∧ ∀ m ∈ ms, inR m = true := by
  obtain ⟨m, rfl, _, hw⟩ := DataW.trod_int Go.Proofs.Try.underlying3 h
  exact ⟨[m], rfl, rfl, fun y hy => by rw [List.mem_singleton.1 hy]; exact inR_wf hw⟩
theorem cells3 : TP.cellsOf 3 = 1 := by kernel_rfl
theorem cells92 : TP.cellsOf 92 = 2 := by kernel_rfl
theorem cells56 : TP.cellsOf 56 = 2 := by kernel_rfl
theorem cells78 : TP.cellsOf 78 = 5 := by kernel_rfl
theorem cells25 : TP.cellsOf 25 = 6 := by kernel_rfl
theorem cells22 : TP.cellsOf 22 = 1 := by kernel_rfl
theorem cells23 : TP.cellsOf 23 = 1 := by kernel_rfl
theorem one_of {cs : List Value} {j : Nat} {ms : List Int} (h1 : (cs.drop j).take 1 = ms.map (fun m => Value.int .i64 m)) (h2 : ms.length = 1) (h3 : ∀ m ∈ ms, inR m = true) : ∃ m, cs[j]? = some (.int .i64 m) ∧ inR m = true := by
  obtain ⟨m, rfl⟩ := List.length_eq_one_iff.1 h2
  refine ⟨m, ?_, h3 m (by simp)⟩
  have h := congrArg (fun l => l[0]?) h1
  simpa using h
theorem at3 {n j : Nat} {cs : List Value} {x : DataW H × List MemPlace} (h : DataW.trod enc TP W 0 (fun _ => true) true n 3 ((cs.drop j).take 1) = some x) : ∃ m, cs[j]? = some (.int .i64 m) ∧ inR m = true := by
  obtain ⟨ms, h1, h2, h3⟩ := el3 _ _ _ h
  exact one_of h1 h2 h3
theorem two_struct {e n : Nat} {f0 f1 : Field} {cs : List Value} {x : DataW H × List MemPlace} (he : TP.underlying e = some (.struct #[f0, f1])) (hc : TP.cellsOf e = 2) (h0 : f0.type = 3 ∧ f0.offset = 0) (h1 : f1.type = 3 ∧ f1.offset = 1)
    (h : DataW.trod enc TP W 0 (fun _ => true) true n e cs = some x) : ∃ ms : List Int, cs = ms.map (fun m => Value.int .i64 m) ∧ ms.length = 2 ∧ ∀ m ∈ ms, inR m = true := by
  obtain ⟨xs, n', _, _, hl, hxs, hf⟩ := DataW.trod_struct he h
  have hxs : xs.length = 2 := hxs
  match xs, hxs with
  | [y0, y1], _ =>
    have g0 := hf 0 f0 rfl
    have g1 := hf 1 f1 rfl
    rw [h0.1, h0.2, cells3] at g0
    rw [h1.1, h1.2, cells3] at g1
    obtain ⟨a, ha, wa⟩ := at3 g0
    obtain ⟨b, hb, wb⟩ := at3 g1
    rw [hc] at hl
    match cs, hl with
    | [c0, c1], _ =>
      simp only [List.getElem?_cons_zero, Option.some.injEq] at ha
      simp only [List.getElem?_cons_succ, List.getElem?_cons_zero, Option.some.injEq] at hb
      subst ha hb
      exact ⟨[a, b], rfl, rfl, fun y hy => by simp at hy; rcases hy with rfl | rfl <;> assumption⟩
theorem el92 (n : Nat) (cs : List Value) (x : DataW H × List MemPlace) (h : DataW.trod enc TP W 0 (fun _ => true) true n 92 cs = some x) : ∃ ms : List Int, cs = ms.map (fun m => Value.int .i64 m) ∧ ms.length = 2 ∧ ∀ m ∈ ms, inR m = true :=
  two_struct Go.Proofs.Try.underlying92 cells92 ⟨rfl, rfl⟩ ⟨rfl, rfl⟩ h
theorem four_struct {e n : Nat} {f0 f1 f2 f3 : Field} {cs : List Value} {x : DataW H × List MemPlace} (he : TP.underlying e = some (.struct #[f0, f1, f2, f3])) (hc : TP.cellsOf e = 5) (h0 : f0.type = 3 ∧ f0.offset = 0) (h1 : f1.type = 3 ∧ f1.offset = 1) (h2 : f2.type = 56 ∧ f2.offset = 2) (h3 : f3.type = 3 ∧ f3.offset = 4)
    (h : DataW.trod enc TP W 0 (fun _ => true) true n e cs = some x) : ∃ ms : List Int, cs = ms.map (fun m => Value.int .i64 m) ∧ ms.length = 5 ∧ ∀ m ∈ ms, inR m = true := by
  obtain ⟨xs, n', _, _, hl, hxs, hf⟩ := DataW.trod_struct he h
  have hxs : xs.length = 4 := hxs
  match xs, hxs with
  | [y0, y1, y2, y3], _ =>
    have g0 := hf 0 f0 rfl
    have g1 := hf 1 f1 rfl
    have g2 := hf 2 f2 rfl
    have g3 := hf 3 f3 rfl
    rw [h0.1, h0.2, cells3] at g0
    rw [h1.1, h1.2, cells3] at g1
    rw [h2.1, h2.2, cells56] at g2
    rw [h3.1, h3.2, cells3] at g3
    obtain ⟨a, ha, wa⟩ := at3 g0
    obtain ⟨b, hb, wb⟩ := at3 g1
    obtain ⟨ms, k1, k2, k3⟩ := two_struct Go.Proofs.Try.underlying56 cells56 ⟨rfl, rfl⟩ ⟨rfl, rfl⟩ g2
    obtain ⟨c, hc', wc⟩ := at3 g3
    rw [hc] at hl
    match cs, hl, ms, k2 with
    | [c0, c1, c2, c3, c4], _, [m0, m1], _ =>
      simp at ha hb hc' k1
      obtain ⟨rfl, rfl⟩ := k1
      subst ha hb hc'
      exact ⟨[a, b, m0, m1, c], rfl, rfl, fun y hy => by
        simp at hy
        rcases hy with rfl | rfl | rfl | rfl | rfl
        · exact wa
        · exact wb
        · exact k3 _ (by simp)
        · exact k3 _ (by simp)
        · exact wc⟩
theorem el78 (n : Nat) (cs : List Value) (x : DataW H × List MemPlace) (h : DataW.trod enc TP W 0 (fun _ => true) true n 78 cs = some x) : ∃ ms : List Int, cs = ms.map (fun m => Value.int .i64 m) ∧ ms.length = 5 ∧ ∀ m ∈ ms, inR m = true :=
  four_struct Go.Proofs.Try.underlying78 cells78 ⟨rfl, rfl⟩ ⟨rfl, rfl⟩ ⟨rfl, rfl⟩ ⟨rfl, rfl⟩ h
theorem sl_at {t j n : Nat} {cs : List Value} {x : DataW H × List MemPlace} (h : DataW.trod enc TP W 0 (fun _ => true) true n t ((cs.drop j).take 1) = some x) (hj : j < cs.length) : ∃ v, cs[j]? = some v ∧ DataW.trod enc TP W 0 (fun _ => true) true n t [v] = some x := by
  refine ⟨cs[j], List.getElem?_eq_getElem hj, ?_⟩
  rw [List.drop_eq_getElem_cons hj] at h
  exact h
def AccIn (a : Acc) : Prop := (inR a.last = true ∧ inR a.interest = true ∧ inR a.bond = true ∧ inR a.purse = true) ∧ (∀ r ∈ a.rates, inR r.day = true ∧ inR r.pence = true) ∧ ∀ e ∈ a.entries, inR e.kind = true ∧ inR e.day = true ∧ inR e.lo = true ∧ inR e.hi = true ∧ inR e.pence = true
def mkR (l : List Int) : Rate := ⟨l.getD 0 0, l.getD 1 0⟩
def mkE (l : List Int) : Entry := ⟨l.getD 0 0, l.getD 1 0, l.getD 2 0, l.getD 3 0, l.getD 4 0⟩
theorem encR_mk {l : List Int} (h : l.length = 2) : encR (mkR l) = l.map iv := by
  match l, h with
  | [a, b], _ => rfl
theorem encE_mk {l : List Int} (h : l.length = 5) : encE (mkE l) = l.map iv := by
  match l, h with
  | [a, b, c, d, e], _ => rfl
theorem six_struct {e n : Nat} {f0 f1 f2 f3 f4 f5 : Field} {cs : List Value} {x : DataW H × List MemPlace} (he : TP.underlying e = some (.struct #[f0, f1, f2, f3, f4, f5])) (hc : TP.cellsOf e = 6) (h0 : f0.type = 3 ∧ f0.offset = 0) (h1 : f1.type = 3 ∧ f1.offset = 1) (h2 : f2.type = 3 ∧ f2.offset = 2) (h3 : f3.type = 3 ∧ f3.offset = 3) (h4 : f4.type = 22 ∧ f4.offset = 4) (h5 : f5.type = 23 ∧ f5.offset = 5)
    (hs4 : ∀ b len cap, cs[4]? = some (.slice (some b) len cap) → b.spot = none) (hs5 : ∀ b len cap, cs[5]? = some (.slice (some b) len cap) → b.spot = none)
    (h : DataW.trod enc TP W 0 (fun _ => true) true n e cs = some x) : ∃ a : Acc, AccIn a ∧ ∀ θ, ARel θ (fun _ => False) W (avA a) (.agg cs.toArray) := by
  obtain ⟨xs, n', _, _, hl, hxs, hf⟩ := DataW.trod_struct he h
  have hxs : xs.length = 6 := hxs
  match xs, hxs with
  | [y0, y1, y2, y3, y4, y5], _ =>
    have g0 := hf 0 f0 rfl
    have g1 := hf 1 f1 rfl
    have g2 := hf 2 f2 rfl
    have g3 := hf 3 f3 rfl
    have g4 := hf 4 f4 rfl
    have g5 := hf 5 f5 rfl
    rw [h0.1, h0.2, cells3] at g0
    rw [h1.1, h1.2, cells3] at g1
    rw [h2.1, h2.2, cells3] at g2
    rw [h3.1, h3.2, cells3] at g3
    rw [h4.1, h4.2, cells22] at g4
    rw [h5.1, h5.2, cells23] at g5
    obtain ⟨a, ha, wa⟩ := at3 g0
    obtain ⟨b, hb, wb⟩ := at3 g1
    obtain ⟨c, hc', wc⟩ := at3 g2
    obtain ⟨d, hd, wd⟩ := at3 g3
    rw [hc] at hl
    obtain ⟨v4, hv4, k4⟩ := sl_at g4 (by omega)
    obtain ⟨v5, hv5, k5⟩ := sl_at g5 (by omega)
    obtain ⟨rs, r1, v4', r2, r3⟩ := open_recs Go.Proofs.Try.underlying22 cells92 el92 k4 (fun b len cap e => hs4 b len cap (by rw [hv4, List.head_eq_of_cons_eq e]))
    obtain ⟨es, e1, v5', e2, e3⟩ := open_recs Go.Proofs.Try.underlying23 cells78 el78 k5 (fun b len cap e => hs5 b len cap (by rw [hv5, List.head_eq_of_cons_eq e]))
    have r2 := List.head_eq_of_cons_eq r2
    have e2 := List.head_eq_of_cons_eq e2
    subst r2 e2
    match cs, hl with
    | [c0, c1, c2, c3, c4, c5], _ =>
      simp at ha hb hc' hd hv4 hv5
      subst ha hb hc' hd hv4 hv5
      have hrs : (rs.map mkR).map encR = rs.map fun r => r.map iv := by
        rw [List.map_map]; exact List.map_congr_left fun r hr => encR_mk (r1 r hr).1
      have hes : (es.map mkE).map encE = es.map fun r => r.map iv := by
        rw [List.map_map]; exact List.map_congr_left fun r hr => encE_mk (e1 r hr).1
      refine ⟨⟨a, b, c, d, rs.map mkR, es.map mkE⟩, ⟨⟨wa, wb, wc, wd⟩, fun r hr => ?_, fun e he => ?_⟩, fun θ => .agg _ _ rfl (fun i hi => ?_) (fun i x hx => ?_)⟩
      · obtain ⟨l, hl, rfl⟩ := List.mem_map.1 hr
        obtain ⟨h1, h2⟩ := r1 l hl
        match l, h1 with
        | [p, q], _ => exact ⟨h2 _ (by simp [mkR]), h2 _ (by simp [mkR])⟩
      · obtain ⟨l, hl, rfl⟩ := List.mem_map.1 he
        obtain ⟨h1, h2⟩ := e1 l hl
        match l, h1 with
        | [p, q, r, s, u], _ => exact ⟨h2 _ (by simp [mkE]), h2 _ (by simp [mkE]), h2 _ (by simp [mkE]), h2 _ (by simp [mkE]), h2 _ (by simp [mkE])⟩
      · have hr := r3.oneCell
        have he := e3.oneCell
        match i, hi with
        | 0, _ => rfl
        | 1, _ => rfl
        | 2, _ => rfl
        | 3, _ => rfl
        | 4, _ => exact hr
        | 5, _ => exact he
      · match i, hx with
        | 0, hx => cases hx; exact .p _ _ (.val _ rfl)
        | 1, hx => cases hx; exact .p _ _ (.val _ rfl)
        | 2, hx => cases hx; exact .p _ _ (.val _ rfl)
        | 3, hx => cases hx; exact .p _ _ (.val _ rfl)
        | 4, hx => cases hx; dsimp only; rw [hrs]; exact .p _ _ r3
        | 5, hx => cases hx; dsimp only; rw [hes]; exact .p _ _ e3
theorem types25 : TP.cellTypes TP.depth 25 = some [3, 3, 3, 3, 22, 23] := by kernel_rfl
theorem open_acc {base : Nat} {v : Value} {d : DataW H} {p : List MemPlace} (hv : Value.okWide TP W .any base 25 v) (h : DataW.Trod enc TP W 0 (fun _ => true) true 25 v d p) : ∃ a : Acc, AccIn a ∧ ∀ θ, ARel θ (fun _ => False) W (avA a) v := by
  simp only [Value.okWide, Go.Proofs.Try.underlying25] at hv
  obtain ⟨cs, rfl, _, ts, hts, _, hall⟩ := hv
  rw [types25] at hts
  cases hts
  obtain ⟨n, hn⟩ := h
  obtain ⟨l⟩ := cs
  refine six_struct Go.Proofs.Try.underlying25 cells25 ⟨rfl, rfl⟩ ⟨rfl, rfl⟩ ⟨rfl, rfl⟩ ⟨rfl, rfl⟩ ⟨rfl, rfl⟩ ⟨rfl, rfl⟩ (fun b len cap hb => ?_) (fun b len cap hb => ?_) hn
  · obtain ⟨u, hu, hok⟩ := hall 4 _ (by simpa using hb)
    simp at hu; subst hu
    simp only [Go.Proofs.Try.underlying22, Cell.okWide, Cell.ok, World.has] at hok
    exact hok.2.2.2.1
  · obtain ⟨u, hu, hok⟩ := hall 5 _ (by simpa using hb)
    simp at hu; subst hu
    simp only [Go.Proofs.Try.underlying23, Cell.okWide, Cell.ok, World.has] at hok
    exact hok.2.2.2.1
end
end AM.Try
end
/- The law of plays. -/
section
namespace AM.Try
open Go AM AM.Duty
open Nat renaming reduceLT → sA, reduceAdd → sB, reduceMul → sC, reduceSub → sD, reduceLeDiff → sE, reduceEqDiff → sF, reduceBEq → sG
open Int renaming reduceAdd → sH, reduceSub → sI, reduceMul → sJ, reduceLT → sK, reduceLE → sL, reduceNeg → sM, reduceToNat → sN, reduceEq → sO
set_option maxHeartbeats 8000000
set_option maxRecDepth 100000
theorem c24 (a : Acc) (hl1 : a.rates.length < 1000000) (hl2 : a.entries.length < 1000000) : PCall Go.Proofs.Try.prog 24 [avA a] (i64 (faultS a)) := by
  refine pcall_mk (v := []) (q := []) (N := 5) (rs := [.tmp 2]) Go.Proofs.Try.func24 rfl rfl rfl rfl rfl ?_
  refine awp_seq_k fun K1 hK1 => ?_
  refine awp_ops ?_
  simp (disch := omega) only [amL, sA, ↓reduceIte]
  refine hK1 _ ?_
  refine awp_seq_k fun K2 hK2 => ?_
  refine awp_ops ?_
  simp (disch := omega) only [amL, amT, sA, sB, sF, ↓reduceIte]
  repeat' first | (refine EC_intro (by kernel_rfl) rfl (c61 a hl1 hl2) (by first | exact .inl rfl | exact .inr (.inl rfl)) ?_ ; simp (disch := omega) only [amL, sA, ↓reduceIte])
  refine hK2 _ ?_
  refine awp_ret ?_
  try simp (disch := omega) only [amL, ↓reduceIte]
  skip
theorem debts_len {a : Acc} {t paid : List Int} : ∀ {c day : Nat} {w : Wk}, (debtsF a t paid c day w).1.length = c
  | 0, _, _ => rfl
  | c + 1, day, w => by simp only [debtsF, List.length_cons, debts_len]
theorem playA_eq (a : Acc) (t : List Int) : playA a t = if faultS a = 0 then if listedS a.entries t = true then if (debtsS a t []).2 = true then .tup [isl (debtsS a t []).1, i64 0] else .tup [nilS, i64 11] else .tup [nilS, i64 2] else .tup [nilS, i64 (faultS a)] := by
  unfold playA
  split
  · rename_i hf
    obtain ⟨h1, h2⟩ := playS_ask hf t
    rw [listed_eq, h1]
    split
    · split
      · rename_i h; rw [h2 h]
      · rfl
    · rfl
  · rfl
theorem c28s (x : List Int) (h : x.length < 1000000) : PCall Go.Proofs.Try.prog 28 [isl x, isl x] (bl true) := by
  have := c28 x x h h
  rwa [decide_eq_true rfl] at this
theorem in_of {a : Acc} (h : AccIn a) : ∀ e ∈ a.entries, inR e.lo = true ∧ inR e.hi = true := fun e he => ⟨(h.2.2 e he).2.2.1, (h.2.2 e he).2.2.2.1⟩
end AM.Try
end
/- The laws' conditions; the reference: truths. -/
section
namespace AM.Try
open Go AM AM.Duty
open Nat renaming reduceLT → sA, reduceAdd → sB, reduceMul → sC, reduceSub → sD, reduceLeDiff → sE, reduceEqDiff → sF, reduceBEq → sG
open Int renaming reduceAdd → sH, reduceSub → sI, reduceMul → sJ, reduceLT → sK, reduceLE → sL, reduceNeg → sM, reduceToNat → sN, reduceEq → sO
set_option maxHeartbeats 8000000
set_option maxRecDepth 100000
def thinS (a : Acc) : Bool := decide (a.rates.length ≤ 7) && decide (a.entries.length ≤ 11)
theorem c19t (a : Acc) : PCall Go.Proofs.Try.prog 19 [avA a] (bl (thinS a)) := c19 a
theorem thin_len {a : Acc} (h : thinS a = true) : a.rates.length ≤ 7 ∧ a.entries.length ≤ 11 := by simpa [thinS] using h
end AM.Try
end
/- The reference: all truths. -/
section
namespace AM.Try
open Go AM AM.Duty
open Nat renaming reduceLT → sA, reduceAdd → sB, reduceMul → sC, reduceSub → sD, reduceLeDiff → sE, reduceEqDiff → sF, reduceBEq → sG
open Int renaming reduceAdd → sH, reduceSub → sI, reduceMul → sJ, reduceLT → sK, reduceLE → sL, reduceNeg → sM, reduceToNat → sN, reduceEq → sO
set_option maxHeartbeats 8000000
set_option maxRecDepth 100000
def truthsTo (a : Acc) (k : Nat) : List (List Int) := ((List.range k).map (nthT a)).filter (isTruth a)
def truthsR (a : Acc) : List (List Int) := truthsTo a (manyT a)
end AM.Try
end
/- The reference: the bounds of a day. -/
section
namespace AM.Try
open Go AM AM.Duty
open Nat renaming reduceLT → sA, reduceAdd → sB, reduceMul → sC, reduceSub → sD, reduceLeDiff → sE, reduceEqDiff → sF, reduceBEq → sG
open Int renaming reduceAdd → sH, reduceSub → sI, reduceMul → sJ, reduceLT → sK, reduceLE → sL, reduceNeg → sM, reduceToNat → sN, reduceEq → sO
set_option maxHeartbeats 8000000
set_option maxRecDepth 100000
def debtOn (a : Acc) (day : Nat) (t : List Int) : Int := (debtsS a t []).1.getD day 0
def bndStep (a : Acc) (day : Nat) (p : Int × Int) (t : List Int) : Int × Int := (if debtOn a day t < p.1 then debtOn a day t else p.1, if p.2 < debtOn a day t then debtOn a day t else p.2)
def bndR (a : Acc) (day : Nat) (l : List (List Int)) : Int × Int := l.foldl (bndStep a day) (1099511627776, -1099511627776)
theorem debts_full {a : Acc} (t : List Int) (paid : List Int) : (debtsS a t paid).1.length = (a.last + 1).toNat := by unfold debtsS; rw [debts_len]
end AM.Try
end
/- Plain laws: the program's truths are the reference's. -/
section
namespace AM.Try
open Go AM AM.Duty
open Nat renaming reduceLT → sA, reduceAdd → sB, reduceMul → sC, reduceSub → sD, reduceLeDiff → sE, reduceEqDiff → sF, reduceBEq → sG
open Int renaming reduceAdd → sH, reduceSub → sI, reduceMul → sJ, reduceLT → sK, reduceLE → sL, reduceNeg → sM, reduceToNat → sN, reduceEq → sO
theorem mem_listsN {f : Int → List (List Int)} {x : List Int} : ∀ {c : Nat} {n : Int}, x ∈ listsN f c n ↔ ∃ k : Nat, k < c ∧ x ∈ f (n + k)
  | 0, n => by simp [listsN]
  | c + 1, n => by
    simp only [listsN, List.mem_append, mem_listsN (c := c)]
    constructor
    · rintro (h | ⟨k, h1, h2⟩)
      · exact ⟨0, by omega, by simpa using h⟩
      · exact ⟨k + 1, by omega, by rw [show n + ((k + 1 : Nat) : Int) = n + 1 + k by omega]; exact h2⟩
    · rintro ⟨k, h1, h2⟩
      cases k with
      | zero => left; simpa using h2
      | succ k => right; exact ⟨k, by omega, by rw [show n + 1 + (k : Int) = n + ((k + 1 : Nat) : Int) by omega]; exact h2⟩
theorem mem_lists : ∀ {es : List Entry} {p x : List Int}, x ∈ listsP es p ↔ ∃ y, x = p ++ y ∧ listedP es y = true
  | [], p, x => by
    simp only [listsP, List.mem_singleton]
    constructor
    · rintro rfl; exact ⟨[], by simp, rfl⟩
    · rintro ⟨y, rfl, h⟩
      cases y with
      | nil => simp
      | cons u us => cases h
  | e :: es, p, x => by
    simp only [listsP, mem_listsN, mem_lists (es := es)]
    constructor
    · rintro ⟨k, h1, y, rfl, h2⟩
      refine ⟨(e.lo + k) :: y, by simp, ?_⟩
      simp only [listedP, inB, h2, Bool.and_true, Bool.and_eq_true, decide_eq_true_eq]
      omega
    · rintro ⟨y, rfl, h⟩
      cases y with
      | nil => cases h
      | cons u us =>
        simp only [listedP, inB, Bool.and_eq_true, decide_eq_true_eq] at h
        refine ⟨(u - e.lo).toNat, by omega, us, ?_, h.2⟩
        rw [show e.lo + ((u - e.lo).toNat : Int) = u by omega]
        simp
theorem nth_listed : ∀ {es : List Entry} {n : Int}, (∀ e ∈ es, e.lo ≤ e.hi) → listedP es (nthS es n) = true
  | [], _, _ => rfl
  | e :: es, n, h => by
    have h1 := h e (by simp)
    have h3 := nth_listed (es := es) (n := n / (e.hi - e.lo + 1)) fun x hx => h x (by simp [hx])
    simp only [nthS, listedP, h3, Bool.and_true, inB, Bool.and_eq_true, decide_eq_true_eq]
    have h2 := mod_bound (m := n) (s := e.hi - e.lo + 1) (by omega)
    omega
theorem listed_nth : ∀ {es : List Entry} {y : List Int}, (∀ e ∈ es, e.lo ≤ e.hi) → listedP es y = true → ∃ n : Nat, n < many es ∧ nthS es n = y
  | [], [], _, _ => ⟨0, by simp [many], rfl⟩
  | [], _ :: _, _, h => by cases h
  | _ :: _, [], _, h => by cases h
  | e :: es, u :: us, hlo, h => by
    simp only [listedP, inB, Bool.and_eq_true, decide_eq_true_eq] at h
    obtain ⟨n, h1, h2⟩ := listed_nth (fun x hx => hlo x (by simp [hx])) h.2
    have hs : ((e.hi - e.lo + 1).toNat : Int) = e.hi - e.lo + 1 := Int.toNat_of_nonneg (by omega)
    generalize hS : (e.hi - e.lo + 1).toNat = s at hs
    have ha : (u - e.lo).toNat < s := by omega
    have hu : ((u - e.lo).toNat : Int) = u - e.lo := Int.toNat_of_nonneg (by omega)
    generalize (u - e.lo).toNat = w at ha hu
    refine ⟨w + s * n, ?_, ?_⟩
    · show _ < (e.hi - e.lo + 1).toNat * many es
      rw [hS]
      have : s * (n + 1) ≤ s * many es := Nat.mul_le_mul_left _ h1
      rw [Nat.mul_add] at this; omega
    · simp only [nthS]
      rw [← hs]
      have e1 : ((w + s * n : Nat) : Int) % (s : Int) = w := by
        rw [← Int.natCast_emod, Nat.add_mul_mod_self_left, Nat.mod_eq_of_lt ha]
      have e2 : ((w + s * n : Nat) : Int) / (s : Int) = n := by
        rw [← Int.natCast_ediv, Nat.add_mul_div_left _ _ (by omega), Nat.div_eq_of_lt ha, Nat.zero_add]
      rw [e1, e2, h2, hu, show e.lo + (u - e.lo) = u by omega]
theorem lo_le {a : Acc} (hf : faultS a = 0) : ∀ e ∈ a.entries, e.lo ≤ e.hi := fun e he => (isEntry_small (List.all_eq_true.1 (fault_zero hf).2.2.2.2.1 e he)).2.1
theorem many_T {a : Acc} (hf : faultS a = 0) : manyT a = many a.entries := by
  have h := sizes_many a.entries 1 (fun e he => by have := lo_le hf e he; omega)
  unfold manyT sizes; rw [h]; omega
theorem mem_truths {a : Acc} (hf : faultS a = 0) {x : List Int} : x ∈ truthsL a ↔ x ∈ truthsR a := by
  unfold truthsL truthsR truthsTo
  rw [List.mem_filter, List.mem_filter, (playS_ask hf x).1, mem_lists, List.mem_map]
  refine and_congr ?_ Iff.rfl
  constructor
  · rintro ⟨y, rfl, h⟩
    obtain ⟨n, h1, h2⟩ := listed_nth (lo_le hf) h
    exact ⟨n, List.mem_range.2 (by rw [many_T hf]; exact h1), by simpa [nthT] using h2⟩
  · rintro ⟨n, _, rfl⟩
    exact ⟨nthT a n, by simp, nth_listed (lo_le hf)⟩
theorem truths_empty {a : Acc} (hf : faultS a = 0) : (truthsL a).isEmpty = (truthsR a).isEmpty := by
  rw [Bool.eq_iff_iff, List.isEmpty_iff, List.isEmpty_iff]
  constructor <;> intro h <;> refine List.eq_nil_iff_forall_not_mem.2 fun x hx => ?_
  · have := (mem_truths hf).2 hx; rw [h] at this; cases this
  · have := (mem_truths hf).1 hx; rw [h] at this; cases this
end AM.Try
end
/- Plain laws: bounds and whether the bond is kept, of the same truths. -/
section
namespace AM.Try
open Go AM AM.Duty
open Nat renaming reduceLT → sA, reduceAdd → sB, reduceMul → sC, reduceSub → sD, reduceLeDiff → sE, reduceEqDiff → sF, reduceBEq → sG
open Int renaming reduceAdd → sH, reduceSub → sI, reduceMul → sJ, reduceLT → sK, reduceLE → sL, reduceNeg → sM, reduceToNat → sN, reduceEq → sO
theorem min_spec : ∀ (ds : List Int) (x : Int), (ds.foldl min x = x ∨ ds.foldl min x ∈ ds) ∧ ds.foldl min x ≤ x ∧ ∀ d ∈ ds, ds.foldl min x ≤ d
  | [], x => ⟨.inl rfl, Int.le_refl _, fun d h => by cases h⟩
  | d :: ds, x => by
    obtain ⟨h1, h2, h3⟩ := min_spec ds (min x d)
    simp only [List.foldl_cons]
    generalize ds.foldl min (min x d) = m at *
    refine ⟨?_, by omega, fun y hy => ?_⟩
    · rcases h1 with h | h
      · by_cases e : x ≤ d
        · left; omega
        · right; rw [h, show min x d = d by omega]; simp
      · right; simp [h]
    · rcases List.mem_cons.1 hy with rfl | hy
      · omega
      · exact h3 y hy
theorem max_spec : ∀ (ds : List Int) (x : Int), (ds.foldl max x = x ∨ ds.foldl max x ∈ ds) ∧ x ≤ ds.foldl max x ∧ ∀ d ∈ ds, d ≤ ds.foldl max x
  | [], x => ⟨.inl rfl, Int.le_refl _, fun d h => by cases h⟩
  | d :: ds, x => by
    obtain ⟨h1, h2, h3⟩ := max_spec ds (max x d)
    simp only [List.foldl_cons]
    generalize ds.foldl max (max x d) = m at *
    refine ⟨?_, by omega, fun y hy => ?_⟩
    · rcases h1 with h | h
      · by_cases e : d ≤ x
        · left; omega
        · right; rw [h, show max x d = d by omega]; simp
      · right; simp [h]
    · rcases List.mem_cons.1 hy with rfl | hy
      · omega
      · exact h3 y hy
theorem bnd_fold {a : Acc} {day : Nat} : ∀ (l : List (List Int)) (x y : Int), l.foldl (bndStep a day) (x, y) = ((l.map (debtOn a day)).foldl min x, (l.map (debtOn a day)).foldl max y)
  | [], _, _ => rfl
  | t :: l, x, y => by
    have e : bndStep a day (x, y) t = (min x (debtOn a day t), max y (debtOn a day t)) := by
      simp only [bndStep, Prod.mk.injEq]
      constructor <;> split <;> omega
    simp only [List.foldl_cons, List.map_cons, e]
    exact bnd_fold l _ _
theorem zip_getD {f : Int → Int → Int} {x y : List Int} {k : Nat} (hx : k < x.length) (hy : k < y.length) : (List.zipWith f x y).getD k 0 = f (x.getD k 0) (y.getD k 0) := by
  simp only [List.getD_eq_getElem?_getD, List.getElem?_zipWith, List.getElem?_eq_getElem hx, List.getElem?_eq_getElem hy, Option.getD_some]
theorem pad_getD {l : List Int} {k : Nat} (h : k < l.length) : (pad l).getD k 0 = l.getD k 0 := by
  unfold pad; rw [List.getD_eq_getElem?_getD, List.getElem?_append_left h, List.getD_eq_getElem?_getD]
theorem fold_on {a : Acc} {k : Nat} (hk : k < 12) (g : List Int → Int) : ∀ (l : List (List Int)) (s : B30), s.first = false → s.lo.length = 12 → s.hi.length = 12 → (∀ t ∈ l, (pad (playS a t [] true).1).length = 12 ∧ (pad (playS a t [] true).1).getD k 0 = g t) →
    ((fold30 a s l).lo.getD k 0, (fold30 a s l).hi.getD k 0) = ((l.map g).foldl min (s.lo.getD k 0), (l.map g).foldl max (s.hi.getD k 0))
  | [], s, _, _, _, _ => rfl
  | t :: l, s, hf, h1, h2, h => by
    obtain ⟨h3, h4⟩ := h t (by simp)
    show ((fold30 a (bst30 s (pad (playS a t [] true).1)) l).lo.getD k 0, (fold30 a (bst30 s (pad (playS a t [] true).1)) l).hi.getD k 0) = _
    have e1 : (bst30 s (pad (playS a t [] true).1)).lo = List.zipWith min s.lo (pad (playS a t [] true).1) := by simp [bst30, hf]
    have e2 : (bst30 s (pad (playS a t [] true).1)).hi = List.zipWith max s.hi (pad (playS a t [] true).1) := by simp [bst30, hf]
    have := fold_on hk g l (bst30 s (pad (playS a t [] true).1)) rfl (by rw [e1]; simp [h1, h3]) (by rw [e2]; simp [h2, h3]) fun x hx => h x (by simp [hx])
    rw [e1, e2, zip_getD (by omega) (by omega), zip_getD (by omega) (by omega), h4] at this
    simpa using this
theorem truth_debt {a : Acc} (hf : faultS a = 0) {t : List Int} (ht : t ∈ truthsL a) : (playS a t [] true).1 = (debtsS a t []).1 := by
  have h := (List.mem_filter.1 ht).2
  have h1 := playS_ask hf t
  rw [h1.1] at h
  exact h1.2 h
theorem last_in {a : Acc} (hf : faultS a = 0) : 0 ≤ a.last ∧ a.last ≤ 11 := by
  obtain ⟨_, _, z3, _, _, _⟩ := fault_zero hf
  simp only [inB, Bool.and_eq_true, decide_eq_true_eq] at z3
  omega
theorem debt_pad {a : Acc} (hf : faultS a = 0) {t : List Int} (ht : t ∈ truthsL a) {k : Nat} (hk : k < (a.last + 1).toNat) : (pad (playS a t [] true).1).length = 12 ∧ (pad (playS a t [] true).1).getD k 0 = debtOn a k t := by
  have h1 := last_in hf
  have e := truth_debt hf ht
  have hl := debts_full (a := a) t []
  rw [e]
  refine ⟨pad_len (by omega), ?_⟩
  rw [pad_getD (by omega)]; rfl
theorem debt_small {a : Acc} (hf : faultS a = 0) {t : List Int} (ht : t ∈ truthsL a) {k : Nat} (hk : k < (a.last + 1).toNat) : -100000000000 ≤ debtOn a k t ∧ debtOn a k t ≤ 100000000000 := by
  have h := playS_in (paid := []) (ask := true) (truth_fit hf ht)
  rw [truth_debt hf ht] at h
  have hl := debts_full (a := a) t []
  refine h _ ?_
  unfold debtOn
  rw [← List.getElem_eq_getD (h := by omega)]
  exact List.getElem_mem _
theorem bounds_eq {a : Acc} (hf : faultS a = 0) (hne : (truthsL a).isEmpty = false) {k : Nat} (hk : k < (a.last + 1).toNat) :
    ((fold30 a ⟨true, z12, z12⟩ (truthsL a)).lo.getD k 0, (fold30 a ⟨true, z12, z12⟩ (truthsL a)).hi.getD k 0) = bndR a k (truthsR a) := by
  have hl := last_in hf
  have hmem : ∀ x, x ∈ truthsL a ↔ x ∈ truthsR a := fun x => mem_truths hf
  have hsm : ∀ t ∈ truthsL a, -100000000000 ≤ debtOn a k t ∧ debtOn a k t ≤ 100000000000 := fun t ht => debt_small hf ht hk
  have hpd : ∀ t ∈ truthsL a, (pad (playS a t [] true).1).length = 12 ∧ (pad (playS a t [] true).1).getD k 0 = debtOn a k t := fun t ht => debt_pad hf ht hk
  generalize truthsR a = R at hmem
  generalize truthsL a = L at hmem hsm hpd hne
  cases L with
  | nil => cases hne
  | cons t l =>
    obtain ⟨h3, h4⟩ := hpd t (by simp)
    have e0 : fold30 a ⟨true, z12, z12⟩ (t :: l) = fold30 a ⟨false, pad (playS a t [] true).1, pad (playS a t [] true).1⟩ l := by
      show fold30 a (bst30 ⟨true, z12, z12⟩ (pad (playS a t [] true).1)) l = _
      congr 1
      simp only [bst30, if_true, B30.mk.injEq, true_and]
      refine ⟨?_, ?_⟩ <;> (refine List.ext_getElem? fun i => ?_; rw [List.getElem?_zipWith]; cases (pad (playS a t [] true).1)[i]? <;> simp)
    rw [e0, fold_on (by omega) (debtOn a k) l _ rfl h3 h3 (fun x hx => hpd x (by simp [hx])), h4]
    unfold bndR; rw [bnd_fold]
    obtain ⟨a1, a2, a3⟩ := min_spec (l.map (debtOn a k)) (debtOn a k t)
    obtain ⟨b1, b2, b3⟩ := max_spec (l.map (debtOn a k)) (debtOn a k t)
    obtain ⟨c1, c2, c3⟩ := min_spec (R.map (debtOn a k)) 1099511627776
    obtain ⟨d1, d2, d3⟩ := max_spec (R.map (debtOn a k)) (-1099511627776)
    generalize (l.map (debtOn a k)).foldl min (debtOn a k t) = m1 at *
    generalize (l.map (debtOn a k)).foldl max (debtOn a k t) = m2 at *
    generalize (R.map (debtOn a k)).foldl min 1099511627776 = m3 at *
    generalize (R.map (debtOn a k)).foldl max (-1099511627776) = m4 at *
    have inL : ∀ x, x ∈ l.map (debtOn a k) ∨ x = debtOn a k t → x ∈ R.map (debtOn a k) := fun x hx => by
      rcases hx with hx | rfl
      · obtain ⟨y, hy, rfl⟩ := List.mem_map.1 hx
        exact List.mem_map_of_mem ((hmem y).1 (by simp [hy]))
      · exact List.mem_map_of_mem ((hmem t).1 (by simp))
    have inR' : ∀ x, x ∈ R.map (debtOn a k) → m1 ≤ x ∧ x ≤ m2 ∧ -100000000000 ≤ x ∧ x ≤ 100000000000 := fun x hx => by
      obtain ⟨y, hy, rfl⟩ := List.mem_map.1 hx
      have hy := (hmem y).2 hy
      have hs := hsm y hy
      rcases List.mem_cons.1 hy with rfl | hy
      · exact ⟨a2, b2, hs⟩
      · exact ⟨a3 _ (List.mem_map_of_mem hy), b3 _ (List.mem_map_of_mem hy), hs⟩
    have g1 := inL m1 (a1.symm)
    have g2 := inL m2 (b1.symm)
    have k1 := inR' m1 g1
    have k2 := inR' m2 g2
    have l1 := c3 m1 g1
    have l2 := d3 m2 g2
    have l3 : m1 ≤ m3 := by
      rcases c1 with h | h
      · omega
      · exact (inR' m3 h).1
    have l4 : m4 ≤ m2 := by
      rcases d1 with h | h
      · omega
      · exact (inR' m4 h).2.1
    simp only [Prod.mk.injEq]
    omega
end AM.Try
end
/- Plain laws: whether the bond is kept. -/
section
namespace AM.Try
open Go AM AM.Duty
open Nat renaming reduceLT → sA, reduceAdd → sB, reduceMul → sC, reduceSub → sD, reduceLeDiff → sE, reduceEqDiff → sF, reduceBEq → sG
open Int renaming reduceAdd → sH, reduceSub → sI, reduceMul → sJ, reduceLT → sK, reduceLE → sL, reduceNeg → sM, reduceToNat → sN, reduceEq → sO
theorem boundsA_eq {a : Acc} (hf : faultS a = 0) : boundsA a = if (truthsR a).isEmpty = true then .tup [.p (.val (.slice none 0 0)), i64 9] else .tup [.p (.sl ((List.range (a.last + 1).toNat).map fun k => [iv (bndR a k (truthsR a)).1, iv (bndR a k (truthsR a)).2])), i64 0] := by
  unfold boundsA
  rw [if_pos hf, truths_empty hf]
  split
  · rfl
  · rename_i h
    have hne : (truthsL a).isEmpty = false := by rw [truths_empty hf]; simpa using h
    have e : (boundsL a).map (fun p => [iv p.1, iv p.2]) = (List.range (a.last + 1).toNat).map fun k => [iv (bndR a k (truthsR a)).1, iv (bndR a k (truthsR a)).2] := by
      unfold boundsL
      rw [List.map_map]
      refine List.map_congr_left fun k hk => ?_
      rw [← bounds_eq hf hne (List.mem_range.1 hk)]; rfl
    rw [e]
end AM.Try
end
/- The law of bounds. -/
section
namespace AM.Try
open Go AM AM.Duty
open Nat renaming reduceLT → sA, reduceAdd → sB, reduceMul → sC, reduceSub → sD, reduceLeDiff → sE, reduceEqDiff → sF, reduceBEq → sG
open Int renaming reduceAdd → sH, reduceSub → sI, reduceMul → sJ, reduceLT → sK, reduceLE → sL, reduceNeg → sM, reduceToNat → sN, reduceEq → sO
set_option maxHeartbeats 8000000
set_option maxRecDepth 100000
abbrev bndE (a : Acc) : List (List PV) := (List.range (a.last + 1).toNat).map fun k => [iv (bndR a k (truthsR a)).1, iv (bndR a k (truthsR a)).2]
theorem bndE_getD {a : Acc} {k : Nat} (h : k < (a.last + 1).toNat) : (bndE a).getD k [] = [iv (bndR a k (truthsR a)).1, iv (bndR a k (truthsR a)).2] := by
  simp only [bndE, List.getD_eq_getElem?_getD, List.getElem?_map, List.getElem?_range h, Option.map_some, Option.getD_some]
theorem bA4 (a : Acc) : boundsA a = if faultS a = 0 then if (truthsR a).isEmpty = true then .tup [.p (.val (.slice none 0 0)), i64 9] else .tup [.p (.sl (bndE a)), i64 0] else .tup [.p (.val (.slice none 0 0)), i64 (faultS a)] := by
  by_cases hf : faultS a = 0
  · rw [boundsA_eq hf, if_pos hf]
  · unfold boundsA; rw [if_neg hf, if_neg hf]
end AM.Try
end
/- The laws' own plays. -/
section
namespace AM.Try
open Go AM AM.Duty
open Nat renaming reduceLT → sA, reduceAdd → sB, reduceMul → sC, reduceSub → sD, reduceLeDiff → sE, reduceEqDiff → sF, reduceBEq → sG
open Int renaming reduceAdd → sH, reduceSub → sI, reduceMul → sJ, reduceLT → sK, reduceLE → sL, reduceNeg → sM, reduceToNat → sN, reduceEq → sO
set_option maxHeartbeats 8000000
set_option maxRecDepth 100000
def readyS (a : Acc) : Bool := thinS a && decide (faultS a = 0)
theorem c46 (a : Acc) : PCall Go.Proofs.Try.prog 46 [avA a] (bl (readyS a)) := by
  refine pcall_mk (v := []) (q := []) (N := 10) (rs := [.tmp 2]) Go.Proofs.Try.func46 rfl rfl rfl rfl rfl ?_
  cases hth : thinS a <;> by_cases hf : faultS a = 0
  all_goals try obtain ⟨hl1, hl2⟩ := thin_len hth
  all_goals
    refine awp_seq_k fun K1 hK1 => ?_
    refine awp_ops ?_
    simp (disch := omega) only [amL, sA, ↓reduceIte]
    refine hK1 _ ?_
    refine awp_seq_k fun K2 hK2 => ?_
    refine awp_ops ?_
    simp (disch := omega) only [amL, amT, sA, sB, sF, ↓reduceIte]
    repeat' first | (refine EG_dec (fun h => ?_) (fun h => ?_) <;> simp (disch := omega) only [h, ne_eq, hth, hf, amL, amT, sA, sB, sC, sD, sE, sF, sG, sH, sI, sJ, sK, sL, sM, sN, sO, ↓reduceIte, reduceCtorEq]) | (refine EG_cases (fun h => ?_) (fun h => ?_) <;> simp (disch := omega) only [h, ne_eq, hth, hf, amL, amT, sA, sB, sC, sD, sE, sF, sG, sH, sI, sJ, sK, sL, sM, sN, sO, ↓reduceIte, reduceCtorEq]) | (refine EC_intro (by kernel_rfl) rfl (c19t a) (by first | exact .inl rfl | exact .inr (.inl rfl)) ?_ ; simp (disch := omega) only [hth, amL, amT, sA, sB, sF, ↓reduceIte]) | (refine EC_intro (by kernel_rfl) rfl (c24 a (by omega) (by omega)) (by first | exact .inl rfl | exact .inr (.inl rfl)) ?_ ; simp (disch := omega) only [hf, amL, amT, sA, sF, ↓reduceIte])
    all_goals
     skip
     refine hK2 _ ?_
     refine awp_ret ?_
     try simp (disch := omega) only [amL, ↓reduceIte]
     all_goals first | (simp [readyS, hth, hf]; done) | (omega)
def oc4R (x y z w : Option AV) : Option AV := match x, y, z, w with | some a, some b, some c, some d => some (.tup [a, b, c, d]) | _, _, _, _ => none
theorem resVars_4 {P : Program} {s : St} {x y z w : ResultVar} : (resVars P s [x, y, z, w]).map resOf = oc4R (resVar P s x) (resVar P s y) (resVar P s z) (resVar P s w) := by
  simp only [resVars]
  cases resVar P s x <;> cases resVar P s y <;> cases resVar P s z <;> cases resVar P s w <;> rfl
theorem oc4R_some {x y z w : AV} : oc4R (some x) (some y) (some z) (some w) = some (.tup [x, y, z, w]) := rfl
def unitsN (a : Acc) (n : Int) : List Int := nthS a.entries (n % sizes a.entries)
def playN (a : Acc) (n : Int) : AV := .tup [isl (unitsN a n), if isTruth a (unitsN a n) = true then isl (debtsS a (unitsN a n) []).1 else nilS, bl (isTruth a (unitsN a n)), bl true]
theorem sizes_pos {a : Acc} (hf : faultS a = 0) : 1 ≤ sizes a.entries := by
  have h := (sizes_lt (valid_small hf) (Nat.le_refl _)).1
  rwa [List.take_length] at h
theorem c47 (a : Acc) (n : Int) (hf : faultS a = 0) (hth : thinS a = true) (hin : AccIn a) (h0 : 0 ≤ n) (_ : n ≤ 1000000) : PCall Go.Proofs.Try.prog 47 [avA a, i64 n] (playN a n) := by
  have hp : (playN a n).isP = true := by unfold playN; split <;> rfl
  refine pcall_mk (v := []) (q := []) (N := 59) (rs := [.tmp 4, .tmp 5, .tmp 6, .tmp 7]) Go.Proofs.Try.func47 rfl rfl rfl rfl hp ?_
  obtain ⟨hl1, hl2⟩ := thin_len hth
  have hin' := in_of hin
  have hsm := valid_small hf
  have hsz := sizes_nat hf
  have hs1 := sizes_pos hf
  have hmo := mod_bound (m := n) hs1
  have htl : (unitsN a n).length = a.entries.length := nth_len _ _
  have hls : listedS a.entries (unitsN a n) = true := by rw [← listed_eq]; exact nth_listed (lo_le hf)
  have hla := last_in hf
  have hm : ((a.last + 1).toNat : Int) = a.last + 1 := Int.toNat_of_nonneg (by omega)
  have hdl := debts_full (a := a) (unitsN a n) []
  have pA := playA_eq a (unitsN a n)
  have c73n : PCall Go.Proofs.Try.prog 73 [avA a, i64 (n % sizes a.entries)] (isl (unitsN a n)) := c73 a _ hsm hmo.1 (by omega)
  cases hd : (debtsS a (unitsN a n) []).2
  all_goals
    have hpn : playN a n = .tup [isl (unitsN a n), if (debtsS a (unitsN a n) []).2 = true then isl (debtsS a (unitsN a n) []).1 else nilS, bl (debtsS a (unitsN a n) []).2, bl true] := rfl
    rw [hd] at hpn
    rw [hpn]
  all_goals
    refine awp_seq_k fun K1 hK1 => ?_
    refine awp_ops ?_
    simp (disch := omega) only [amL, sA, sB, ↓reduceIte]
    refine hK1 _ ?_
    refine awp_seq_k fun K2 hK2 => ?_
    refine awp_any2 (by kernel_rfl) (by kernel_rfl) ?_
    simp (disch := omega) only [amL, amT, sA, sB, sF, ↓reduceIte, reduceCtorEq]
    repeat' first | (refine EC_intro (by kernel_rfl) rfl (c50 a hsm) (by first | exact .inl rfl | exact .inr (.inl rfl)) ?_ ; simp (disch := omega) only [amL, amT, sA, sF, ↓reduceIte]) | (refine EC_intro (by kernel_rfl) rfl (c73n) (by first | exact .inl rfl | exact .inr (.inl rfl)) ?_ ; simp (disch := omega) only [amL, sA, ↓reduceIte])
    refine hK2 _ ?_
    refine awp_seq_k fun K3 hK3 => ?_
    refine awp_ops ?_
    simp (disch := omega) only [amL, amT, sA, sB, sF, ↓reduceIte]
    repeat' first | (refine EC_intro (by kernel_rfl) rfl (PCall.of_nil 2 rfl (c27 a _ [] (fit_nth hf _) (by decide))) (by first | exact .inl rfl | exact .inr (.inl rfl)) ?_ ; simp (disch := omega) only [hd, amL, sA, sF, ↓reduceIte])
    refine hK3 _ ?_
    refine awp_seq_k fun K4 hK4 => ?_
    refine awp_ops ?_
    simp (disch := omega) only [amL, amT, sA, sB, sF, ↓reduceIte]
    repeat' first | (refine EC_intro (by kernel_rfl) rfl (c22 a (by omega) (by omega)) (by first | exact .inl rfl | exact .inr (.inl rfl)) ?_ ; simp (disch := omega) only [amL, sA, sF, ↓reduceIte]) | (refine EC_intro (by kernel_rfl) rfl (c23 _ (by omega)) (by first | exact .inl rfl | exact .inr (.inl rfl)) ?_ ; simp (disch := omega) only [amL, sF, ↓reduceIte]) | (refine EC_intro (by kernel_rfl) rfl (c21 a (unitsN a n) (by omega) (by omega) (by omega) hin') (by first | exact .inl rfl | exact .inr (.inl rfl)) ?_ ; simp (disch := omega) only [pA, hf, hls, hd, amL, sA, sF, ↓reduceIte])
    refine hK4 _ ?_
    refine awp_seq_k fun K5 hK5 => ?_
    refine awp_ops ?_
    simp (disch := omega) only [hm, hdl, amL, amT, sA, sF, sO, ↓reduceIte, reduceCtorEq]
    repeat' first | (refine EG_dec (fun h => ?_) (fun h => ?_) <;> simp (disch := omega) only [h, pA, hf, hls, hd, ne_eq, hm, resVars_4, oc4R_some, hdl, amL, amT, sA, sB, sC, sD, sE, sF, sG, sH, sI, sJ, sK, sL, sM, sN, sO, ↓reduceIte, reduceCtorEq]) | (refine EG_cases (fun h => ?_) (fun h => ?_) <;> simp (disch := omega) only [h, pA, hf, hls, hd, ne_eq, hm, resVars_4, oc4R_some, hdl, amL, amT, sA, sB, sC, sD, sE, sF, sG, sH, sI, sJ, sK, sL, sM, sN, sO, ↓reduceIte, reduceCtorEq])
    all_goals
     skip
     refine hK5 _ ?_
     refine awp_ret ?_
     try simp (disch := omega) only [resVars_4, oc4R_some, amL, sF, ↓reduceIte]
     all_goals first | rfl | (omega)
end AM.Try
end
/- The abstract machine, part 46: functions whose result is a new struct. -/
section
namespace AM
open Go
def viewFL (os : Nat → Option AO) : List AV → Option (List AV)
  | [] => some []
  | x :: r => match viewF 0 os x, viewFL os r with | some y, some ys => some (y :: ys) | _, _ => none
theorem viewFL_nil {os : Nat → Option AO} : viewFL os [] = some [] := rfl
theorem viewFL_cons {os : Nat → Option AO} {x y : AV} {r ys : List AV} (h1 : viewF 0 os x = some y) (h2 : viewFL os r = some ys) : viewFL os (x :: r) = some (y :: ys) := by simp only [viewFL, h1, h2]
theorem viewFL_get {os : Nat → Option AO} : ∀ {l l' : List AV}, viewFL os l = some l' → l'.length = l.length ∧ ∀ (i : Nat) (y : AV), l'[i]? = some y → ∃ x, l[i]? = some x ∧ viewF 0 os x = some y
  | [], l', h => by simp only [viewFL, Option.some.injEq] at h; subst h; exact ⟨rfl, fun i y hy => by simp at hy⟩
  | x :: r, l', h => by
    simp only [viewFL] at h
    cases h1 : viewF 0 os x with
    | none => simp [h1] at h
    | some y =>
      cases h2 : viewFL os r with
      | none => simp [h1, h2] at h
      | some ys =>
        simp only [h1, h2, Option.some.injEq] at h
        subst h
        obtain ⟨h3, h4⟩ := viewFL_get h2
        refine ⟨by simp [h3], fun i z hz => ?_⟩
        cases i with
        | zero => simp at hz; subst hz; exact ⟨x, by simp, h1⟩
        | succ i => simpa using h4 i z (by simpa using hz)
def RetFC (P : Program) (i : Nat) (ty : TypeId) (res : AV) : AEx → St → Prop
  | .exit _, _ => False
  | _, s => ∃ n off g cs xs ys, s.t i = .ptr n off ∧ (tyOf P ty).agg = some g ∧ s.o n = some (.cells cs) ∧ takeCells g (tyOf P ty).sz (cs.drop off) = some (.agg xs) ∧ viewFL s.o xs = some ys ∧ res = .agg ys
theorem RetFC_ret {P : Program} {i : Nat} {ty : TypeId} {res : AV} {s : St} : RetFC P i ty res .ret s = ∃ n off g cs xs ys, s.t i = .ptr n off ∧ (tyOf P ty).agg = some g ∧ s.o n = some (.cells cs) ∧ takeCells g (tyOf P ty).sz (cs.drop off) = some (.agg xs) ∧ viewFL s.o xs = some ys ∧ res = .agg ys := rfl
theorem fcallc_mk {v q : List Nat} {P : Program} {f : FuncId} {fn : Func} {body : Code} {args : List AV} {res : AV} {N i : Nat} {ty : TypeId} (hf : P.funcs[f]? = some fn) (hb : fn.body = some body) (hN : fn.ntmps = N) (hi : fn.results.toList = [.cell i ty]) (hargs : args.all AV.isP = true) (hres : res.isP = true)
    (h : AWP P ⟨⟨none, fun _ => False⟩, 0, v, q⟩ N body ⟨T (ixs 0 args), O []⟩ (RetFC P i ty res)) : FCall P f args res := by
  subst hN
  rw [← init_ixs] at h
  refine ⟨hres, fun θ M w vs hM hsz hrel => ?_⟩
  refine calls_of_wp hf hb ((wpIn_wide (n := 0)).1 ?_)
  have hH : SRel 0 w.heap.size (fun _ => False) θ M w (Hp fun _ => none) a0 :=
    ⟨Nat.zero_le _, fun _ => .undef _, (fun n o hn => by cases hn), (fun n o hn => by cases hn), (fun n m hn => by cases hn), Nat.le_refl _, hM, ⟨fun _ => AV.lives_undef _, (fun m o hm => by cases hm)⟩⟩
  have h0 := hH.start (fn := fn) hsz hrel (fun i x hx => lives_isP _ (List.all_eq_true.1 hargs x (List.mem_of_getElem? hx)))
  refine wpIn_mono (h _ _ θ M w _ h0) ?_
  rintro e a' w' ⟨ae, st', rfl, hr, ⟨θ', M', hs', hk, ht, hm⟩, hd⟩
  have hoth : Others st' θ' (fun b => b < w.heap.size) := others_blk hs' (fun _ h => h) (fun _ h => h)
  have key : ∀ n off g cs xs ys, st'.t i = .ptr n off → (tyOf P ty).agg = some g → st'.o n = some (.cells cs) → takeCells g (tyOf P ty).sz (cs.drop off) = some (.agg xs) → viewFL st'.o xs = some ys → res = .agg ys →
      ∃ v, (results fn a'.tmps).run P w' = .ok v w' ∧ ∃ v', Ending.returned v = .returned v' ∧ ARel θ (fun b => b < w.heap.size) w' res v' ∧ Keeps (fun b => w.heap.size ≤ b) w w' := by
    intro n off g cs xs ys k1 k2 k3 k4 k5 k6
    have hv := rel_ptr (hs'.tm i) k1
    have hc := (cellsAt_obj hs' k3).drop off
    rw [Nat.zero_add] at hc
    obtain ⟨v, hrun, hrel⟩ := hc.load k2 k4
    have hvr : ARel θ' (fun b => b < w.heap.size) w' res v := by
      subst k6
      obtain ⟨hl, hg⟩ := viewFL_get k5
      cases hrel with
      | agg _ vs hs hone hr =>
        refine .agg ys vs (by rw [hl]; exact hs) (fun i hi => hone i (by rw [← hl]; exact hi)) (fun i z hz => ?_)
        obtain ⟨x, h1, h2⟩ := hg i z hz
        exact (viewF_rel hs' hoth (hr i x h1) h2).1
    have hrr : (results fn a'.tmps).run P w' = .ok v w' := by
      have hus' : (fn.results.mapM (resSem a'.tmps)).run P w' = .ok #[v] w' := by
        rw [Array.mapM_eq_mapM_toList, Sem.run_map, hi]
        simp [resSem, hv, asAddr, hrun]
      rw [results_eq]
      simp only [Sem.run_bind, hus', Result.andThen_ok, Sem.run_pure]
      rfl
    exact ⟨v, hrr, _, rfl, hvr.nameless θ hres, hk.mono (fun b hb => hb.elim id False.elim)⟩
  cases ae with
  | normal =>
    obtain ⟨n, off, g, cs, xs, ys, k1, k2, k3, k4, k5, k6⟩ := hr
    exact ⟨hd, key n off g cs xs ys k1 k2 k3 k4 k5 k6⟩
  | ret =>
    obtain ⟨n, off, g, cs, xs, ys, k1, k2, k3, k4, k5, k6⟩ := hr
    exact ⟨hd, key n off g cs xs ys k1 k2 k3 k4 k5 k6⟩
  | exit j => exact hr.elim
def viewT (os : Nat → Option AO) : AV → Option AV
  | .p (.val v) => some (.p (.val v))
  | x => viewF 0 os x
theorem viewT_own {os : Nat → Option AO} {n len k : Nat} {es : List (List PV)} (h : os n = some (.arr k es)) (h1 : len ≤ es.length) (h2 : (es.all fun e => e.all PV.isVal) = true) : viewT os (.own n len) = some (.p (.sl (es.take len))) := by
  unfold viewT viewF; simp only [h]; rw [if_pos ⟨h1, Nat.zero_le _, h2⟩]
theorem viewT_rel {N B : Nat} {S : Nat → Prop} {θ : Nat → Loc} {M M2 : Nat → Prop} {w : World} {st : St} {a : Act} (h : SRel N B S θ M w st a) (ho : Others st θ M2) {x y : AV} {v : Value} (hv : ARel θ M w x v) (hy : viewT st.o x = some y) : ARel θ M2 w y v ∧ y.isP = true := by
  unfold viewT at hy
  split at hy
  · cases hy
    cases hv with
    | p _ _ h => exact ⟨.p _ _ (h.isVal rfl _ _), rfl⟩
  · exact viewF_rel h ho hv hy
def RetFT (i j : Nat) (res : AV) : AEx → St → Prop
  | .exit _, _ => False
  | _, s => ∃ x y, viewT s.o (s.t i) = some x ∧ viewT s.o (s.t j) = some y ∧ res = .tup [x, y]
theorem RetFT_normal {i j : Nat} {res : AV} {s : St} : RetFT i j res .normal s = ∃ x y, viewT s.o (s.t i) = some x ∧ viewT s.o (s.t j) = some y ∧ res = .tup [x, y] := rfl
theorem RetFT_ret {i j : Nat} {res : AV} {s : St} : RetFT i j res .ret s = ∃ x y, viewT s.o (s.t i) = some x ∧ viewT s.o (s.t j) = some y ∧ res = .tup [x, y] := rfl
theorem fcallt_mk {v q : List Nat} {P : Program} {f : FuncId} {fn : Func} {body : Code} {args : List AV} {res : AV} {N i j : Nat} (hf : P.funcs[f]? = some fn) (hb : fn.body = some body) (hN : fn.ntmps = N) (hi : fn.results.toList = [.tmp i, .tmp j]) (hargs : args.all AV.isP = true) (hres : res.isP = true)
    (h : AWP P ⟨⟨none, fun _ => False⟩, 0, v, q⟩ N body ⟨T (ixs 0 args), O []⟩ (RetFT i j res)) : FCall P f args res := by
  subst hN
  rw [← init_ixs] at h
  refine ⟨hres, fun θ M w vs hM hsz hrel => ?_⟩
  refine calls_of_wp hf hb ((wpIn_wide (n := 0)).1 ?_)
  have hH : SRel 0 w.heap.size (fun _ => False) θ M w (Hp fun _ => none) a0 :=
    ⟨Nat.zero_le _, fun _ => .undef _, (fun n o hn => by cases hn), (fun n o hn => by cases hn), (fun n m hn => by cases hn), Nat.le_refl _, hM, ⟨fun _ => AV.lives_undef _, (fun m o hm => by cases hm)⟩⟩
  have h0 := hH.start (fn := fn) hsz hrel (fun i x hx => lives_isP _ (List.all_eq_true.1 hargs x (List.mem_of_getElem? hx)))
  refine wpIn_mono (h _ _ θ M w _ h0) ?_
  rintro e a' w' ⟨ae, st', rfl, hr, ⟨θ', M', hs', hk, ht, hm⟩, hd⟩
  have hoth : Others st' θ' (fun b => b < w.heap.size) := others_blk hs' (fun _ h => h) (fun _ h => h)
  have key : ∀ x y, viewT st'.o (st'.t i) = some x → viewT st'.o (st'.t j) = some y → res = .tup [x, y] →
      ∃ v, (results fn a'.tmps).run P w' = .ok v w' ∧ ∃ v', Ending.returned v = .returned v' ∧ ARel θ (fun b => b < w.heap.size) w' res v' ∧ Keeps (fun b => w.heap.size ≤ b) w w' := by
    intro x y k1 k2 k3
    have r1 := (viewT_rel hs' hoth (hs'.tm i) k1).1
    have r2 := (viewT_rel hs' hoth (hs'.tm j) k2).1
    have hvr : ARel θ' (fun b => b < w.heap.size) w' res (.tuple #[a'.tmps.getD i undef, a'.tmps.getD j undef]) := by
      subst k3
      refine .tup _ _ rfl (fun k z hz => ?_)
      match k, hz with
      | 0, hz => cases hz; exact r1
      | 1, hz => cases hz; exact r2
    have hrr : (results fn a'.tmps).run P w' = .ok (.tuple #[a'.tmps.getD i undef, a'.tmps.getD j undef]) w' := by
      have hus' : (fn.results.mapM (resSem a'.tmps)).run P w' = .ok #[a'.tmps.getD i undef, a'.tmps.getD j undef] w' := by
        rw [Array.mapM_eq_mapM_toList, Sem.run_map, hi]
        simp [resSem]
      rw [results_eq]
      simp only [Sem.run_bind, hus', Result.andThen_ok, Sem.run_pure]
      rfl
    exact ⟨_, hrr, _, rfl, hvr.nameless θ hres, hk.mono (fun b hb => hb.elim id False.elim)⟩
  cases ae with
  | normal =>
    obtain ⟨x, y, k1, k2, k3⟩ := hr
    exact ⟨hd, key x y k1 k2 k3⟩
  | ret =>
    obtain ⟨x, y, k1, k2, k3⟩ := hr
    exact ⟨hd, key x y k1 k2 k3⟩
  | exit j => exact hr.elim
end AM
end
/- The law's own copy of an account is new. -/
section
namespace AM.Try
open Go AM AM.Duty
open Nat renaming reduceLT → sA, reduceAdd → sB, reduceMul → sC, reduceSub → sD, reduceLeDiff → sE, reduceEqDiff → sF, reduceBEq → sG
open Int renaming reduceAdd → sH, reduceSub → sI, reduceMul → sJ, reduceLT → sK, reduceLE → sL, reduceNeg → sM, reduceToNat → sN, reduceEq → sO
set_option maxHeartbeats 8000000
set_option maxRecDepth 100000
theorem viewF_i {os : Nat → Option AO} {n : Int} : viewF 0 os (i64 n) = some (i64 n) := rfl
theorem encE_isVal (l : List Entry) : ((l.map encE).all fun e => e.all PV.isVal) = true := by
  rw [List.all_eq_true]
  intro x hx
  obtain ⟨n, _, rfl⟩ := List.mem_map.1 hx
  rfl
theorem encR_isVal (l : List Rate) : ((l.map encR).all fun e => e.all PV.isVal) = true := by
  rw [List.all_eq_true]
  intro x hx
  obtain ⟨n, _, rfl⟩ := List.mem_map.1 hx
  rfl
theorem c22f (a : Acc) (h1 : a.rates.length < 1000000) (h2 : a.entries.length < 1000000) : FCall Go.Proofs.Try.prog 22 [avA a] (avA a) := by
  refine fcallc_mk (v := []) (q := []) (N := 69) (i := 2) (ty := 35) Go.Proofs.Try.func22 rfl rfl rfl rfl rfl ?_
  refine awp_seq_k fun K1 hK1 => ?_
  refine awp_ops ?_
  simp (disch := omega) only [amL, amT, sA, sB, sF, ↓reduceIte]
  refine hK1 _ ?_
  refine awp_seq_k fun K2 hK2 => ?_
  refine awp_ops ?_
  simp (disch := omega) only [amL, amT, sA, sB, sE, sF, ↓reduceIte, reduceCtorEq]
  refine hK2 _ ?_
  refine awp_seq_k fun K3 hK3 => ?_
  refine awp_seq_k fun K4 hK4 => ?_
  refine awp_ops ?_
  simp (disch := omega) only [amL, sA]
  refine hK4 _ ?_
  refine awp_block ?_
  refine awp_adoptC' 39 2 3 4 (by decide) rfl rfl rfl ?_
  refine awp_loop_k (α := Nat) (fun k => ⟨T [(1, .ptr 1 0), (2, .ptr 2 0), (3, .ptr 3 0), (4, i64 k)], O [(1, .cells (cA a)), (2, .cells [i64 0, i64 0, i64 0, i64 0, .p (.val (.slice none 0 0)), .p (.val (.slice none 0 0))]), (3, .cells [i64 a.last, i64 a.interest, i64 a.bond, i64 a.purse, .own 39 k, .p (.val (.slice none 0 0))]), (39, .arr 2 ((a.rates.take k).map encR))]⟩) (fun k => a.rates.length - k) (fun k => k ≤ a.rates.length) 0 ?_ ?_ (fun k hx5 K5 hK5 => ?_)
  · simp
  · refine le_mk ?_ ?_ ?_ ?_ <;> (try simp (disch := omega) only [amL, sF, sG, ↓reduceIte])
  skip
  refine awp_seq_k fun K6 hK6 => ?_
  refine awp_seq_k fun K7 hK7 => ?_
  refine awp_ops ?_
  simp (disch := omega) only [amL, amT, sA, sF, ↓reduceIte, reduceCtorEq]
  refine hK7 _ ?_
  refine awp_cond rfl (fun h => ?_) (fun h => ?_)
  ·first
   | exact Bool.noConfusion h
   |skip
    try simp only [decide_eq_true_eq] at h
    refine awp_skip ?_
    refine hK6 _ ?_
    refine awp_seq_k fun K8 hK8 => ?_
    refine awp_block ?_
    refine awp_any2 (by kernel_rfl) (by kernel_rfl) ?_
    simp (disch := omega) only [encR_getD, amL, amT, sA, sB, sC, sE, sF, ↓reduceIte, reduceCtorEq]
    refine hK8 _ ?_
    refine awp_ops ?_
    simp (disch := omega) only [amL, amT, sA, sF, ↓reduceIte]
    refine hK5 (k+1) _ ?_ ?_ (le_mk ?_ ?_ ?_ ?_)
    all_goals (try simp (disch := omega) only [amL, sF, sG, ↓reduceIte])
    all_goals first | omega | rw [take_snoc encR default (by omega)]
  ·first
   | exact Bool.noConfusion h
   |skip
    try simp only [decide_eq_false_iff_not] at h
    refine awp_exit ?_
    refine hK3 _ ?_
    refine awp_seq_k fun K9 hK9 => ?_
    refine awp_seq_k fun K10 hK10 => ?_
    refine awp_ops ?_
    simp (disch := omega) only [amL, sA]
    refine hK10 _ ?_
    refine awp_block ?_
    refine awp_adoptC' 66 5 3 5 (by decide) rfl rfl rfl ?_
    refine awp_loop_k (α := Nat) (fun j => ⟨T [(2, .ptr 2 0), (1, .ptr 1 0), (3, .ptr 3 0), (5, i64 j)], O [(1, .cells (cA a)), (2, .cells [i64 0, i64 0, i64 0, i64 0, .p (.val (.slice none 0 0)), .p (.val (.slice none 0 0))]), (3, .cells [i64 a.last, i64 a.interest, i64 a.bond, i64 a.purse, .own 39 k, .own 66 j]), (39, .arr 2 ((a.rates.take k).map encR)), (66, .arr 5 ((a.entries.take j).map encE))]⟩) (fun j => a.entries.length - j) (fun j => j ≤ a.entries.length) 0 ?_ ?_ (fun j hx11 K11 hK11 => ?_)
    · simp
    · refine le_mk ?_ ?_ ?_ ?_ <;> (try simp (disch := omega) only [amL, sF, sG, ↓reduceIte])
    skip
    refine awp_seq_k fun K12 hK12 => ?_
    refine awp_seq_k fun K13 hK13 => ?_
    refine awp_ops ?_
    simp (disch := omega) only [amL, amT, sA, sF, ↓reduceIte, reduceCtorEq]
    refine hK13 _ ?_
    refine awp_cond rfl (fun h => ?_) (fun h => ?_)
    ·first
     | exact Bool.noConfusion h
     |skip
      try simp only [decide_eq_true_eq] at h
      refine awp_skip ?_
      refine hK12 _ ?_
      refine awp_seq_k fun K14 hK14 => ?_
      refine awp_block ?_
      refine awp_seq_k fun K15 hK15 => ?_
      refine awp_ops ?_
      simp (disch := omega) only [encE_getD, amL, amT, sA, sB, sF, ↓reduceIte, reduceCtorEq]
      refine hK15 _ ?_
      refine awp_any2 (by kernel_rfl) (by kernel_rfl) ?_
      simp (disch := omega) only [amL, amT, sA, sB, sE, sF, ↓reduceIte, reduceCtorEq]
      repeat' first | (refine EC_intro (by kernel_rfl) rfl (c35 _ _) (by first | exact .inl rfl | exact .inr (.inl rfl)) ?_ ; simp (disch := omega) only [amL, amT, sA, sB, sC, sE, sF, ↓reduceIte, reduceCtorEq])
      refine hK14 _ ?_
      refine awp_ops ?_
      simp (disch := omega) only [amL, amT, sA, sF, ↓reduceIte]
      refine hK11 (j+1) _ ?_ ?_ (le_mk ?_ ?_ ?_ ?_)
      all_goals (try simp (disch := omega) only [amL, sF, sG, ↓reduceIte])
      all_goals first | omega | rw [take_snoc encE default (by omega)]
    ·first
     | exact Bool.noConfusion h
     |skip
      try simp only [decide_eq_false_iff_not] at h
      refine awp_exit ?_
      refine hK9 _ ?_
      refine awp_seq_k fun K16 hK16 => ?_
      refine awp_ops ?_
      simp (disch := omega) only [amL, amT, sB, sF, ↓reduceIte]
      refine hK16 _ ?_
      refine awp_ret ?_
      try simp (disch := omega) only [encE_getD, encR_getD, amL, amT, sA, sB, sC, sD, sE, sF, sG, sH, sI, sJ, sK, sL, sM, sN, sO, ↓reduceIte, reduceCtorEq]
      (have e : k = a.rates.length := by omega); (have e2 : j = a.entries.length := by omega); subst e e2; rw [List.take_length, List.take_length]; rw [RetFC_ret]; refine ⟨2, 0, _, _, _, _, rfl, (by simp only [amT]; rfl), rfl, (by simp only [amT]; rfl), viewFL_cons viewF_i (viewFL_cons viewF_i (viewFL_cons viewF_i (viewFL_cons viewF_i (viewFL_cons (viewF_own rfl (by simp) (encR_isVal _)) (viewFL_cons (viewF_own rfl (by simp) (encE_isVal _)) viewFL_nil))))), ?_⟩; rw [List.take_of_length_le (by simp), List.take_of_length_le (by simp)]
end AM.Try
end
/- The stage's theorem. -/
section
namespace AM.Try
open Go AM AM.Duty
open Nat renaming reduceLT → sA, reduceAdd → sB, reduceMul → sC, reduceSub → sD, reduceLeDiff → sE, reduceEqDiff → sF, reduceBEq → sG
open Int renaming reduceAdd → sH, reduceSub → sI, reduceMul → sJ, reduceLT → sK, reduceLE → sL, reduceNeg → sM, reduceToNat → sN, reduceEq → sO
set_option maxHeartbeats 8000000
set_option maxRecDepth 100000
theorem units_in {a : Acc} (hf : faultS a = 0) {n : Int} (h : isTruth a (unitsN a n) = true) : unitsN a n ∈ truthsR a := by
  rw [← mem_truths hf]
  unfold truthsL
  rw [List.mem_filter, mem_lists]
  refine ⟨⟨_, rfl, nth_listed (lo_le hf)⟩, ?_⟩
  have := (playS_ask hf (unitsN a n)).1
  rw [show (debtsS a (unitsN a n) []).2 = isTruth a (unitsN a n) from rfl, h] at this
  simpa using this
theorem bnd_le {a : Acc} {t : List Int} (ht : t ∈ truthsR a) (k : Nat) : (bndR a k (truthsR a)).1 ≤ debtOn a k t ∧ debtOn a k t ≤ (bndR a k (truthsR a)).2 := by
  unfold bndR; rw [bnd_fold]
  exact ⟨(min_spec _ _).2.2 _ (List.mem_map_of_mem ht), (max_spec _ _).2.2 _ (List.mem_map_of_mem ht)⟩
end AM.Try
end
/- Plain laws: truths, bounds, plays of two accounts. -/
section
namespace AM.Try
open Go AM AM.Duty
open Nat renaming reduceLT → sA, reduceAdd → sB, reduceMul → sC, reduceSub → sD, reduceLeDiff → sE, reduceEqDiff → sF, reduceBEq → sG
open Int renaming reduceAdd → sH, reduceSub → sI, reduceMul → sJ, reduceLT → sK, reduceLE → sL, reduceNeg → sM, reduceToNat → sN, reduceEq → sO
theorem mem_R {a : Acc} (hf : faultS a = 0) {t : List Int} : t ∈ truthsR a ↔ listedS a.entries t = true ∧ isTruth a t = true := by
  have h := (playS_ask hf t).1
  rw [show (debtsS a t []).2 = isTruth a t from rfl] at h
  rw [← mem_truths hf]
  unfold truthsL
  rw [List.mem_filter, mem_lists, h]
  constructor
  · rintro ⟨⟨y, e, hy⟩, h2⟩
    rw [List.nil_append] at e; subst e
    rw [listed_eq] at hy; exact ⟨hy, h2⟩
  · rintro ⟨h1, h2⟩
    exact ⟨⟨t, rfl, by rw [listed_eq]; exact h1⟩, h2⟩
theorem some_of_not_empty {α : Type} {l : List α} (h : l.isEmpty = false) : ∃ x, x ∈ l := by
  cases l with
  | nil => cases h
  | cons x l => exact ⟨x, by simp⟩
theorem not_empty {α : Type} {l : List α} {x : α} (h : x ∈ l) : l.isEmpty = false := by
  cases l with
  | nil => cases h
  | cons _ _ => rfl
theorem bnd_hit {a : Acc} (hf : faultS a = 0) (hne : (truthsR a).isEmpty = false) {k : Nat} (hk : k < (a.last + 1).toNat) : (∃ t ∈ truthsR a, debtOn a k t = (bndR a k (truthsR a)).1) ∧ ∃ t ∈ truthsR a, debtOn a k t = (bndR a k (truthsR a)).2 := by
  have hs : ∀ x ∈ (truthsR a).map (debtOn a k), -100000000000 ≤ x ∧ x ≤ 100000000000 := fun x hx => by
    obtain ⟨t, ht, rfl⟩ := List.mem_map.1 hx
    exact debt_small hf ((mem_truths hf).2 ht) hk
  obtain ⟨t, ht⟩ := some_of_not_empty hne
  have htm := List.mem_map_of_mem (f := debtOn a k) ht
  unfold bndR; rw [bnd_fold]
  obtain ⟨c1, c2, c3⟩ := min_spec ((truthsR a).map (debtOn a k)) 1099511627776
  obtain ⟨d1, d2, d3⟩ := max_spec ((truthsR a).map (debtOn a k)) (-1099511627776)
  have g1 := c3 _ htm
  have g2 := d3 _ htm
  have g3 := hs _ htm
  constructor
  · rcases c1 with h | h
    · omega
    · obtain ⟨u, hu, e⟩ := List.mem_map.1 h; exact ⟨u, hu, e⟩
  · rcases d1 with h | h
    · omega
    · obtain ⟨u, hu, e⟩ := List.mem_map.1 h; exact ⟨u, hu, e⟩
end AM.Try
end
/- The law of order. -/
section
namespace AM.Try
open Go AM AM.Duty
open Nat renaming reduceLT → sA, reduceAdd → sB, reduceMul → sC, reduceSub → sD, reduceLeDiff → sE, reduceEqDiff → sF, reduceBEq → sG
open Int renaming reduceAdd → sH, reduceSub → sI, reduceMul → sJ, reduceLT → sK, reduceLE → sL, reduceNeg → sM, reduceToNat → sN, reduceEq → sO
set_option maxHeartbeats 8000000
set_option maxRecDepth 100000
theorem valid_in {x : Acc} (hf : faultS x = 0) : ∀ e ∈ x.entries, inR e.lo = true ∧ inR e.hi = true := fun e he => by
  have h := isEntry_small (List.all_eq_true.1 (fault_zero hf).2.2.2.2.1 e he)
  simp only [inR, Bool.and_eq_true, decide_eq_true_eq]; omega
end AM.Try
end
/- Play's debts are new; a list's copy is one's own. -/
section
namespace AM.Try
open Go AM AM.Duty
open Nat renaming reduceLT → sA, reduceAdd → sB, reduceMul → sC, reduceSub → sD, reduceLeDiff → sE, reduceEqDiff → sF, reduceBEq → sG
open Int renaming reduceAdd → sH, reduceSub → sI, reduceMul → sJ, reduceLT → sK, reduceLE → sL, reduceNeg → sM, reduceToNat → sN, reduceEq → sO
set_option maxHeartbeats 8000000
set_option maxRecDepth 100000
theorem n23 (l : List Int) (hl : l.length < 1000000) : NCall Go.Proofs.Try.prog 23 [isl l] 1 (l.map encI) := by
  refine ncall_mk (v := []) (q := []) (N := 6) (i := 2) Go.Proofs.Try.func23 rfl rfl rfl rfl ?_
  refine awp_seq_k fun K1 hK1 => ?_
  refine awp_ops ?_
  simp (disch := omega) only [amL, sA]
  refine hK1 _ ?_
  refine awp_seq_k fun K2 hK2 => ?_
  refine awp_ops ?_
  simp (disch := omega) only [isl_all, amL, amT, sA, sF, ↓reduceIte, reduceCtorEq]
  refine hK2 _ ?_
  refine awp_ret ?_
  try simp (disch := omega) only [RetN_ret, amL, ↓reduceIte]
  first | (rw [viewN_own rfl (by simp) (ints_isVal l)]; done) | (omega)
theorem c21f (a : Acc) (t : List Int) (hl1 : a.rates.length < 1000000) (hl2 : a.entries.length < 1000000) (hlt : t.length < 1000000) (hin : ∀ e ∈ a.entries, inR e.lo = true ∧ inR e.hi = true) : FCall Go.Proofs.Try.prog 21 [avA a, isl t] (playA a t) := by
  refine fcallt_mk (v := []) (q := []) (N := 52) (i := 4) (j := 5) Go.Proofs.Try.func21 rfl rfl rfl rfl (playA_isP a t) ?_
  refine awp_seq_k fun K1 hK1 => ?_
  refine awp_ops ?_
  simp (disch := omega) only [amL, sA, sB, ↓reduceIte]
  refine hK1 _ ?_
  refine awp_seq_k fun K2 hK2 => ?_
  refine awp_seq_k fun K3 hK3 => ?_
  refine awp_ops ?_
  simp (disch := omega) only [amL, amT, sA, sB, sF, ↓reduceIte]
  repeat' first | (refine EC_intro (by kernel_rfl) rfl (c25 a hl1 hl2 hin) (by first | exact .inl rfl | exact .inr (.inl rfl)) ?_ ; simp (disch := omega) only [amL, sA, ↓reduceIte])
  refine hK3 _ ?_
  refine awp_seq_k fun K4 hK4 => ?_
  refine awp_ops ?_
  simp (disch := omega) only [ne_eq, amL, amT, sA, ↓reduceIte]
  refine hK4 _ ?_
  refine awp_cond rfl (fun h => ?_) (fun h => ?_)
  ·first
   | exact Bool.noConfusion h
   |skip
    try simp only [Bool.not_eq_true', decide_eq_false_iff_not, decide_not] at h
    refine awp_seq_k fun K5 hK5 => ?_
    refine awp_ops ?_
    simp (disch := omega) only [amL, sA, sF, ↓reduceIte]
    refine hK5 _ ?_
    refine awp_ret ?_
    try simp (disch := omega) only [RetFT_ret, amL, sF, ↓reduceIte]
    first | (rw [playA, if_neg (by assumption)]; exact ⟨_, _, rfl, rfl, rfl⟩) | (rw [playA, if_pos hf0, if_pos hli, if_pos hb]; refine ⟨_, _, viewT_own rfl (by simp) (ints_isVal _), rfl, ?_⟩; rw [List.take_of_length_le (by simp)]; done) | (rw [playA, if_pos hf0, if_pos hli, if_neg (by simpa using h)]; exact ⟨_, _, rfl, rfl, rfl⟩) | (rw [playA, if_pos (by omega), if_neg (fun e => by have := listed_len e; omega)]; exact ⟨_, _, rfl, rfl, rfl⟩) | (rw [playA, if_pos (by omega), if_neg (fun e => by have := listed_get e k (by omega); simp_all)]; exact ⟨_, _, rfl, rfl, rfl⟩) | (omega)
  ·first
   | exact Bool.noConfusion h
   |skip
    try simp only [decide_eq_true_eq, Bool.not_eq_false', decide_not] at h
    refine awp_skip ?_
    refine hK2 _ ?_
    refine awp_seq_k fun K6 hK6 => ?_
    refine awp_seq_k fun K7 hK7 => ?_
    refine awp_ops ?_
    simp (disch := omega) only [ne_eq, amL, amT, sA, sF, ↓reduceIte, reduceCtorEq]
    refine hK7 _ ?_
    refine awp_cond rfl (fun h => ?_) (fun h => ?_)
    ·first
     | exact Bool.noConfusion h
     |skip
      try simp only [Bool.not_eq_true', decide_eq_false_iff_not, decide_not] at h
      refine awp_seq_k fun K8 hK8 => ?_
      refine awp_ops ?_
      simp (disch := omega) only [amL, sA]
      refine hK8 _ ?_
      refine awp_ret ?_
      try simp (disch := omega) only [RetFT_ret, amL, sF, ↓reduceIte]
      first | (rw [playA, if_neg (by assumption)]; exact ⟨_, _, rfl, rfl, rfl⟩) | (rw [playA, if_pos hf0, if_pos hli, if_pos hb]; refine ⟨_, _, viewT_own rfl (by simp) (ints_isVal _), rfl, ?_⟩; rw [List.take_of_length_le (by simp)]; done) | (rw [playA, if_pos hf0, if_pos hli, if_neg (by simpa using h)]; exact ⟨_, _, rfl, rfl, rfl⟩) | (rw [playA, if_pos (by omega), if_neg (fun e => by have := listed_len e; omega)]; exact ⟨_, _, rfl, rfl, rfl⟩) | (rw [playA, if_pos (by omega), if_neg (fun e => by have := listed_get e k (by omega); simp_all)]; exact ⟨_, _, rfl, rfl, rfl⟩) | (omega)
    ·first
     | exact Bool.noConfusion h
     |skip
      try simp only [decide_eq_true_eq, Bool.not_eq_false', decide_not] at h
      refine awp_skip ?_
      refine hK6 _ ?_
      refine awp_seq_k fun K9 hK9 => ?_
      refine awp_seq_k fun K10 hK10 => ?_
      refine awp_ops ?_
      simp (disch := omega) only [amL, amT, sA, sF, ↓reduceIte, reduceCtorEq]
      refine hK10 _ ?_
      refine awp_block ?_
      skip
      refine awp_loop_k (α := Nat) (fun k => ⟨T [(1, isl t), (2, .ptr 2 0), (23, .p (.sl (a.entries.map encE))), (24, i64 a.entries.length), (25, i64 k)], O [(2, .cells (cA a))]⟩) (fun k => a.entries.length - k) (fun k => k ≤ a.entries.length ∧ ∀ j, j < k → inB (t.getD j 0) (getE a.entries j).lo (getE a.entries j).hi = true) 0 ?_ ?_ (fun k hx11 K11 hK11 => ?_)
      · exact ⟨by omega, fun j hj => absurd hj (by omega)⟩
      · refine le_mk ?_ ?_ ?_ ?_ <;> (try simp (disch := omega) only [amL, sF, ↓reduceIte, reduceCtorEq])
      obtain ⟨hk, hn⟩ := hx11
      refine awp_seq_k fun K12 hK12 => ?_
      refine awp_ops ?_
      simp (disch := omega) only [amL, amT, sA, sF, ↓reduceIte]
      refine hK12 _ ?_
      refine awp_seq_k fun K13 hK13 => ?_
      refine awp_cond rfl (fun h => ?_) (fun h => ?_)
      ·first
       | exact Bool.noConfusion h
       |skip
        try simp only [decide_eq_true_eq] at h
        refine awp_skip ?_
        refine hK13 _ ?_
        refine awp_seq_k fun K14 hK14 => ?_
        refine awp_block ?_
        refine awp_seq_k fun K15 hK15 => ?_
        refine awp_ops ?_
        simp (disch := omega) only [encE_getD, amL, amT, sA, sB, sF, ↓reduceIte]
        refine hK15 _ ?_
        refine awp_seq_k fun K16 hK16 => ?_
        refine awp_any2 (by kernel_rfl) (by kernel_rfl) ?_
        simp (disch := omega) only [amL, amT, sA, sB, sE, sF, ↓reduceIte, reduceCtorEq]
        repeat' first | (refine EC_intro (by kernel_rfl) rfl (c58 _ _ _) (by first | exact .inl rfl | exact .inr (.inl rfl)) ?_ ; simp (disch := omega) only [amL, sA, ↓reduceIte])
        refine hK16 _ ?_
        refine awp_cond rfl (fun h => ?_) (fun h => ?_)
        ·first
         | exact Bool.noConfusion h
         |skip
          try simp only [Bool.not_eq_true'] at h
          refine awp_seq_k fun K17 hK17 => ?_
          refine awp_ops ?_
          simp (disch := omega) only [amL, sA]
          refine hK17 _ ?_
          refine awp_ret ?_
          try simp (disch := omega) only [RetFT_ret, amL, sF, ↓reduceIte]
          first | (rw [playA, if_neg (by assumption)]; exact ⟨_, _, rfl, rfl, rfl⟩) | (rw [playA, if_pos hf0, if_pos hli, if_pos hb]; refine ⟨_, _, viewT_own rfl (by simp) (ints_isVal _), rfl, ?_⟩; rw [List.take_of_length_le (by simp)]; done) | (rw [playA, if_pos hf0, if_pos hli, if_neg (by simpa using h)]; exact ⟨_, _, rfl, rfl, rfl⟩) | (rw [playA, if_pos (by omega), if_neg (fun e => by have := listed_len e; omega)]; exact ⟨_, _, rfl, rfl, rfl⟩) | (rw [playA, if_pos (by omega), if_neg (fun e => by have := listed_get e k (by omega); simp_all)]; exact ⟨_, _, rfl, rfl, rfl⟩) | (omega)
        ·first
         | exact Bool.noConfusion h
         |skip
          try simp only [Bool.not_eq_false'] at h
          refine awp_skip ?_
          refine hK14 _ ?_
          refine awp_ops ?_
          simp (disch := omega) only [amL, amT, sA, sF, ↓reduceIte]
          refine hK11 (k+1) _ ?_ ?_ (le_mk ?_ ?_ ?_ ?_)
          all_goals (try simp (disch := omega) only [amL, sF, ↓reduceIte])
          all_goals first | omega | exact ⟨by omega, fun j hj => by
            by_cases e : j = k
            · subst e; assumption
            · exact hn j (by omega)⟩ | (omega)
      ·first
       | exact Bool.noConfusion h
       |skip
        try simp only [decide_eq_false_iff_not] at h
        refine awp_exit ?_
        refine hK9 _ ?_
        refine awp_seq_k fun K18 hK18 => ?_
        refine awp_ops ?_
        have hli : listedP a.entries t = true := listed_of (by omega) (fun j hj => hn j (by omega))
        have hf0 : faultS a = 0 := by omega
        have hfit := fitP_of hf0 hli
        have hpl := pad_len (playS_le (t := t) (paid := []) (ask := true) hfit.last1)
        have hpc := putCells_all (vs := List.map i64 (pad (playS a t [] true).1)) (l := [i64 0, i64 0, i64 0, i64 0, i64 0, i64 0, i64 0, i64 0, i64 0, i64 0, i64 0, i64 0]) (by rw [List.length_map, hpl]; rfl)
        have hl0 := hfit.last0
        have hl11 := hfit.last1
        simp (disch := omega) only [amL, amT, sA, sB, sF, ↓reduceIte]
        repeat' first | (refine EC_intro (by kernel_rfl) rfl (PCall.of_nil 2 rfl (c59 a t [] true hfit (by simp))) (by first | exact .inl rfl | exact .inr (.inl rfl)) ?_ ; simp (disch := omega) only [hpl, hpc, amL, amT, sA, sB, sF, ↓reduceIte])
        refine hK18 _ ?_
        refine awp_seq_k fun K19 hK19 => ?_
        refine awp_seq_k fun K20 hK20 => ?_
        refine awp_ops ?_
        simp (disch := omega) only [amL, sA, ↓reduceIte]
        refine hK20 _ ?_
        refine awp_cond rfl (fun h => ?_) (fun h => ?_)
        ·first
         | exact Bool.noConfusion h
         |skip
          try simp only [Bool.not_eq_true'] at h
          refine awp_seq_k fun K21 hK21 => ?_
          refine awp_ops ?_
          simp (disch := omega) only [amL, sA]
          refine hK21 _ ?_
          refine awp_ret ?_
          try simp (disch := omega) only [RetFT_ret, amL, sF, ↓reduceIte]
          first | (rw [playA, if_neg (by assumption)]; exact ⟨_, _, rfl, rfl, rfl⟩) | (rw [playA, if_pos hf0, if_pos hli, if_pos hb]; refine ⟨_, _, viewT_own rfl (by simp) (ints_isVal _), rfl, ?_⟩; rw [List.take_of_length_le (by simp)]; done) | (rw [playA, if_pos hf0, if_pos hli, if_neg (by simpa using h)]; exact ⟨_, _, rfl, rfl, rfl⟩) | (rw [playA, if_pos (by omega), if_neg (fun e => by have := listed_len e; omega)]; exact ⟨_, _, rfl, rfl, rfl⟩) | (rw [playA, if_pos (by omega), if_neg (fun e => by have := listed_get e k (by omega); simp_all)]; exact ⟨_, _, rfl, rfl, rfl⟩) | (omega)
        ·first
         | exact Bool.noConfusion h
         |skip
          try simp only [Bool.not_eq_false'] at h
          refine awp_skip ?_
          refine hK19 _ ?_
          refine awp_seq_k fun K22 hK22 => ?_
          refine awp_ops ?_
          simp (disch := omega) only [EO_slice95, fSlA_ptr, bound_none, bound_some, bnd1_int, viewA_csl, viewC_csl, amL, amT, sA, sF, sH, sK, sL, sN, ↓reduceIte, reduceCtorEq]
          have hb : (playS a t [] true).2 = true := by simpa using h
          simp only [show (a.last + 1 - 0).toNat = (a.last + 1).toNat by omega]
          rw [elems_ints rfl (by rw [hpl]; omega), pad_take2 (playS_len hb)]
          simp only [Option.map_some, oc2_some]
          refine EN_intro (by kernel_rfl) (by decide) (n60 _ (by rw [playS_len hb]; omega)) (by simp (disch := omega) only [amL, sF, ↓reduceIte]) ?_
          simp (disch := omega) only [amL, sA, ↓reduceIte]
          all_goals
           skip
           refine hK22 _ ?_
           refine awp_ret ?_
           try simp (disch := omega) only [RetFT_ret, amL, sF, ↓reduceIte]
           first | (rw [playA, if_neg (by assumption)]; exact ⟨_, _, rfl, rfl, rfl⟩) | (rw [playA, if_pos hf0, if_pos hli, if_pos hb]; refine ⟨_, _, viewT_own rfl (by simp) (ints_isVal _), rfl, ?_⟩; rw [List.take_of_length_le (by simp)]; done) | (rw [playA, if_pos hf0, if_pos hli, if_neg (by simpa using h)]; exact ⟨_, _, rfl, rfl, rfl⟩) | (rw [playA, if_pos (by omega), if_neg (fun e => by have := listed_len e; omega)]; exact ⟨_, _, rfl, rfl, rfl⟩) | (rw [playA, if_pos (by omega), if_neg (fun e => by have := listed_get e k (by omega); simp_all)]; exact ⟨_, _, rfl, rfl, rfl⟩) | (omega)
end AM.Try
end
/- Plain laws: an account that is multiplied; a further statement. -/
section
namespace AM.Try
open Go AM AM.Duty
open Nat renaming reduceLT → sA, reduceAdd → sB, reduceMul → sC, reduceSub → sD, reduceLeDiff → sE, reduceEqDiff → sF, reduceBEq → sG
open Int renaming reduceAdd → sH, reduceSub → sI, reduceMul → sJ, reduceLT → sK, reduceLE → sL, reduceNeg → sM, reduceToNat → sN, reduceEq → sO
abbrev stA (a : Acc) (k v : Int) : Acc := { a with entries := a.entries ++ [⟨3, k, 0, 0, v⟩] }
theorem dayF_app {rate day : Int} {e : Entry} {u : Int} : ∀ {es : List Entry} {t : List Int} {w : Wk}, t.length = es.length → dayF rate day (es ++ [e]) (t ++ [u]) w = stepE rate day e u (dayF rate day es t w)
  | [], [], w, _ => rfl
  | e :: es, u :: t, w, h => by
    simp only [List.cons_append, dayF]
    exact dayF_app (by simpa using h)
  | [], _ :: _, _, h => by simp at h
  | _ :: _, [], _, h => by simp at h
theorem plain_step {rate day : Int} {e : Entry} {u : Int} {w : Wk} (h : w.plain = w.debt) : (stepE rate day e u w).plain = (stepE rate day e u w).debt := by
  unfold stepE
  split
  · exact h
  · split
    · simp only [h]
    · split
      · simp only [h]
      · split
        · simp only [h]
        · split
          · exact h
          · exact h
theorem plain_day {rate day : Int} : ∀ {es : List Entry} {t : List Int} {w : Wk}, w.plain = w.debt → (dayF rate day es t w).plain = (dayF rate day es t w).debt
  | [], t, w, h => by cases t <;> exact h
  | e :: es, [], w, h => h
  | e :: es, u :: t, w, h => by simp only [dayF]; exact plain_day (plain_step h)
theorem dayS_nil {a : Acc} {t : List Int} {day : Nat} {w : Wk} : dayS a t [] day w = dayF (ratedX a.rates (day + 1)) day a.entries t (dayI a w) := by
  unfold dayS; dsimp only; rw [if_neg (by simp)]
theorem plain_dayS {a : Acc} {t : List Int} {day : Nat} {w : Wk} (h : w.plain = w.debt) : (dayS a t [] day w).plain = (dayS a t [] day w).debt := by
  rw [dayS_nil]; exact plain_day (by simp only [dayI, h])
theorem st_dayS {a : Acc} {k v : Int} {t : List Int} (ht : t.length = a.entries.length) {day : Nat} {w : Wk} (h : w.plain = w.debt) :
    dayS (stA a k v) (t ++ [0]) [] day w = ⟨(dayS a t [] day w).debt, (dayS a t [] day w).plain, (dayS a t [] day w).units, (dayS a t [] day w).ok && (decide (k ≠ day) || decide ((dayS a t [] day w).debt = v))⟩ := by
  have hp := plain_dayS (a := a) (t := t) (day := day) h
  rw [dayS_nil] at hp ⊢
  rw [dayS_nil]
  show dayF _ _ (a.entries ++ [_]) (t ++ [0]) (dayI a w) = _
  rw [dayF_app ht]
  generalize dayF (ratedX a.rates (day + 1)) day a.entries t (dayI a w) = v2 at hp ⊢
  obtain ⟨d, p, n, o⟩ := v2
  dsimp only at hp; subst hp
  by_cases e : k = day
  · rw [step_3 e rfl]; simp [e]
  · rw [step_other e]; simp [e]
def okW (w : Wk) (b : Bool) : Wk := ⟨w.debt, w.plain, w.units, b⟩
theorem step_okW {rate day : Int} {e : Entry} {u : Int} {w : Wk} {b : Bool} : stepE rate day e u (okW w (w.ok && b)) = okW (stepE rate day e u w) ((stepE rate day e u w).ok && b) := by
  unfold stepE okW
  dsimp only
  split
  · rfl
  · split
    · rfl
    · split
      · rfl
      · split
        · simp only [Bool.and_right_comm]
        · split
          · simp only [Bool.and_right_comm]
          · rfl
theorem day_okW {rate day : Int} {b : Bool} : ∀ {es : List Entry} {t : List Int} {w : Wk}, dayF rate day es t (okW w (w.ok && b)) = okW (dayF rate day es t w) ((dayF rate day es t w).ok && b)
  | [], t, w => by cases t <;> rfl
  | e :: es, [], w => rfl
  | e :: es, u :: t, w => by
    simp only [dayF]
    rw [step_okW]; exact day_okW
theorem st_debtsF {a : Acc} {k v : Int} {t : List Int} (ht : t.length = a.entries.length) : ∀ {c day : Nat} {w : Wk} {b : Bool}, w.plain = w.debt →
    debtsF (stA a k v) (t ++ [0]) [] c day (okW w (w.ok && b)) = ((debtsF a t [] c day w).1, (debtsF a t [] c day w).2 && (b && (decide (k < day) || (decide ((day : Int) + c ≤ k) || decide ((debtsF a t [] c day w).1.getD (k - day).toNat 0 = v)))))
  | 0, day, w, b, _ => by
    simp only [debtsF, okW]
    congr 2
    by_cases h : k < day
    · simp [h]
    · rw [decide_eq_true (show (day : Int) + (0 : Nat) ≤ k by omega)]; simp
  | c + 1, day, w, b, h => by
    have h1 : dayS (stA a k v) (t ++ [0]) [] day (okW w (w.ok && b)) = okW (dayS a t [] day w) ((dayS a t [] day w).ok && (b && (decide (k ≠ day) || decide ((dayS a t [] day w).debt = v)))) := by
      rw [st_dayS ht (by exact h)]
      have h2 : dayS a t [] day (okW w (w.ok && b)) = okW (dayS a t [] day w) ((dayS a t [] day w).ok && b) := by
        rw [dayS_nil, dayS_nil]
        exact day_okW (w := dayI a w)
      rw [h2]
      simp only [okW, Bool.and_assoc]
      rfl
    simp only [debtsF]
    rw [h1, st_debtsF ht (plain_dayS h)]
    refine Prod.ext rfl ?_
    dsimp only
    congr 1
    rw [Bool.and_assoc]
    congr 1
    by_cases e1 : k < day
    · rw [decide_eq_true e1, decide_eq_true (show k < ((day + 1 : Nat) : Int) by omega), decide_eq_true (show k ≠ day by omega)]; simp
    · by_cases e2 : k = day
      · rw [decide_eq_true (show k < ((day + 1 : Nat) : Int) by omega), decide_eq_false (show ¬ k < (day : Int) by omega), decide_eq_false (show ¬ (day : Int) + ((c + 1 : Nat) : Int) ≤ k by omega), show (k - day).toNat = 0 by omega]
        simp [e2]
      · rw [show (k - day).toNat = (k - ((day + 1 : Nat) : Int)).toNat + 1 by omega]
        rw [decide_eq_false (show ¬ k < ((day + 1 : Nat) : Int) by omega), decide_eq_false (show ¬ k < (day : Int) by omega), decide_eq_true (show k ≠ day by omega)]
        by_cases e4 : (day : Int) + ((c + 1 : Nat) : Int) ≤ k
        · rw [decide_eq_true e4, decide_eq_true (show ((day + 1 : Nat) : Int) + (c : Int) ≤ k by omega)]; rfl
        · rw [decide_eq_false e4, decide_eq_false (show ¬ ((day + 1 : Nat) : Int) + (c : Int) ≤ k by omega)]; rfl
theorem st_debts {a : Acc} {k v : Int} (h0 : 0 ≤ k) (h1 : k ≤ a.last) {t : List Int} (ht : t.length = a.entries.length) : debtsS (stA a k v) (t ++ [0]) [] = ((debtsS a t []).1, (debtsS a t []).2 && decide (debtOn a k.toNat t = v)) := by
  have := st_debtsF (a := a) (k := k) (v := v) ht (c := (a.last + 1).toNat) (day := 0) (w := ⟨0, 0, 0, true⟩) (b := true) rfl
  have e1 : ¬ k < ((0 : Nat) : Int) := by omega
  have e2 : ¬ ((0 : Nat) : Int) + ((a.last + 1).toNat : Int) ≤ k := by omega
  rw [decide_eq_false e1, decide_eq_false e2, show k - ((0 : Nat) : Int) = k by omega] at this
  simp only [Bool.and_self, Bool.true_and, Bool.false_or] at this
  exact this
theorem st_listed {e : Entry} (h : e.lo = 0 ∧ e.hi = 0) : ∀ {es : List Entry} {u : List Int}, listedS (es ++ [e]) u = true ↔ ∃ t, u = t ++ [0] ∧ listedS es t = true
  | [], [] => by simp [listedS]
  | [], [x] => by
    simp only [List.nil_append, listedS, Bool.and_true, inB, Bool.and_eq_true, decide_eq_true_eq, h.1, h.2]
    constructor
    · intro hx; exact ⟨[], by simp; omega, rfl⟩
    · rintro ⟨t, e, ht⟩
      cases t with
      | nil => simp at e; omega
      | cons _ _ => cases ht
  | [], x :: y :: u => by
    simp only [List.nil_append, listedS, Bool.and_false, Bool.false_eq_true, false_iff]
    rintro ⟨t, e, ht⟩
    cases t with
    | nil => simp at e
    | cons _ _ => cases ht
  | f :: es, [] => by simp [listedS]
  | f :: es, x :: u => by
    simp only [List.cons_append, listedS, Bool.and_eq_true]
    rw [st_listed h]
    constructor
    · rintro ⟨h1, t, e, ht⟩
      exact ⟨x :: t, by rw [e]; rfl, by simp only [listedS, h1, ht, Bool.and_self]⟩
    · rintro ⟨t, e, ht⟩
      cases t with
      | nil => simp only [List.nil_append, List.cons.injEq] at e; simp [listedS] at ht
      | cons y t =>
        simp only [List.cons_append, List.cons.injEq] at e
        simp only [listedS, Bool.and_eq_true] at ht
        exact ⟨by rw [e.1]; exact ht.1, t, e.2, ht.2⟩
theorem st_beyond {a : Acc} (hf : faultS a = 0) {k v : Int} (h0 : 0 ≤ k) (h1 : k ≤ a.last) (hx : faultS (stA a k v) = 0) (hv : v < (bndR a k.toNat (truthsR a)).1 ∨ (bndR a k.toNat (truthsR a)).2 < v) : (truthsR (stA a k v)).isEmpty = true := by
  cases hE : (truthsR (stA a k v)).isEmpty with
  | true => rfl
  | false =>
    obtain ⟨u, hu⟩ := some_of_not_empty hE
    obtain ⟨g1, g2⟩ := (mem_R hx).1 hu
    obtain ⟨t, rfl, ht⟩ := (st_listed ⟨rfl, rfl⟩).1 g1
    unfold isTruth at g2
    rw [st_debts h0 h1 (listed_unit ht).1] at g2
    simp only [Bool.and_eq_true, decide_eq_true_eq] at g2
    have := bnd_le ((mem_R hf).2 ⟨ht, g2.1⟩) k.toNat
    omega
end AM.Try
end
/- The abstract machine, part 47: regions that draw their order: an append, then operations that look. -/
section
namespace AM
open Go
def xop (P : Program) : Op → Bool
  | .fieldAddr .. => true
  | .indexAddr .. => true
  | .build .. => true
  | .buildSlice .. => true
  | .load t _ => (tyOf P t).agg == some false
  | _ => false
section
variable {P : Program} {r : RB} {N : Nat} {all : List Oper} {d : Nat} {op : Op} {ρ ρ' : Operand → AV} {os os' : Nat → Option AO} {s : St}
theorem xop_q (h : xop P op = true) : qop op = true ∧ goCall op = false ∧ isDefer op = false ∧ isM op = false := by
  cases op <;> first | (simp [xop] at h; done) | exact ⟨rfl, rfl, rfl, rfl⟩
theorem purge_id {n : Nat} {x : AV} (h : x.purge n = x) (hu : x ≠ .undef) : x.clean n = true := by
  unfold AV.purge at h
  split at h
  · assumption
  · exact absurd h.symm hu
theorem fillParts_ne {zero : List AV} {place : Nat → Option (Nat × Nat)} : ∀ {l : List (Nat × AV)} {cs : List AV}, fillParts zero place l = some cs → ∀ p ∈ l, p.2 ≠ .undef
  | [], _, _, p, hp => by cases hp
  | (i, x) :: l, cs, h, p, hp => by
    simp only [fillParts] at h
    split at h
    · rename_i off sz cs' g1 g2
      split at h
      · rcases List.mem_cons.1 hp with rfl | hp
        · intro e
          dsimp only at e; subst e; simp [AV.cs?] at g2
        · exact fillParts_ne h p hp
      · cases h
    · cases h
theorem partElems_ne {k : Nat} : ∀ {l : List (Nat × AV)} {i : Nat} {es : List (List PV)}, partElems k i l = some es → ∀ p ∈ l, p.2 ≠ .undef
  | [], _, _, _, p, hp => by cases hp
  | (j, x) :: l, i, es, h, p, hp => by
    simp only [partElems] at h
    split at h
    · rename_i c es' g1 g2
      split at h
      · rcases List.mem_cons.1 hp with rfl | hp
        · intro e
          dsimp only at e; subst e; simp [AV.cs?] at g1
        · exact partElems_ne g2 p hp
      · cases h
    · cases h
theorem parts_same {n : Nat} {l : List (Nat × Operand)} (hρ : ∀ p ∈ l, ρ' p.2 = (ρ p.2).purge n) (h : ∀ p ∈ l.map fun p => (p.1, ρ' p.2), p.2 ≠ .undef) : (l.map fun p => (p.1, ρ' p.2)) = l.map fun p => (p.1, ρ p.2) := by
  refine List.map_congr_left fun p hp => ?_
  have h1 := h (p.1, ρ' p.2) (List.mem_map.2 ⟨p, hp, rfl⟩)
  have h2 := hρ p hp
  rcases purge_cases n (ρ p.2) with e | e
  · rw [h2, e]
  · exact absurd (h2.trans e) h1
theorem x_unpurge (h : xop P op = true) {n : Nat} (hρ : ∀ x ∈ op.operands.toList, ρ' x = (ρ x).purge n) (ho : ∀ m, m ≠ n → os' m = (os m).map (AO.purge n)) {e : Eff} (he : eff P d op ρ' os' = some e) (hgood : ∀ y, e = .pure y → y.clean n = true) :
    (∃ y y', e = .pure y ∧ y = y'.purge n ∧ eff P d op ρ os = some (.pure y')) ∨ (∃ k es len, e = .new (.arr k es) (.own d len) ∧ eff P d op ρ os = some e) := by
  cases op with
  | load t x =>
    have hld : ∀ ρ os, eff P d (.load t x) ρ os = fLoad (tyOf P t).agg (tyOf P t).sz os (ρ x) := fun _ _ => rfl
    rw [hld] at he ⊢
    have hx := hρ x (by simp [Op.operands])
    have hag : (tyOf P t).agg = some false := by simpa [xop] using h
    rw [hag] at he ⊢
    rcases purge_cases n (ρ x) with e1 | e1
    · have hxx : ρ' x = ρ x := hx.trans e1
      rw [hxx] at he
      left
      cases hv : ρ x with
      | ptr m off =>
        have hmn : m ≠ n := fun em => by
          have hcl := purge_id e1 (by rw [hv]; intro h; cases h)
          rw [hv] at hcl; simp [AV.clean, em] at hcl
        rw [hv, fLoad_ptr, ho m hmn] at he
        rw [fLoad_ptr]
        cases hm : os m with
        | none => rw [hm] at he; cases he
        | some o =>
          rw [hm, Option.map_some] at he
          cases o with
          | cells cs =>
            simp only [AO.purge, fLoadP_cells, takeCells, Bool.false_eq_true, if_false, ← List.map_drop, List.head?_map] at he ⊢
            cases hc : (cs.drop off).head? with
            | none => rw [hc] at he; cases he
            | some z =>
              rw [hc] at he
              cases he
              exact ⟨_, z, rfl, rfl, rfl⟩
          | arr k es => cases he
          | obj X => cases he
          | loop k tm => cases he
      | eptr m k i off =>
        have hmn : m ≠ n := fun em => by
          have hcl := purge_id e1 (by rw [hv]; intro h; cases h)
          rw [hv] at hcl; simp [AV.clean, em] at hcl
        rw [hv, fLoad_eptr, ho m hmn] at he
        rw [fLoad_eptr]
        cases hm : os m with
        | none => rw [hm] at he; cases he
        | some o =>
          rw [hm, Option.map_some] at he
          cases o with
          | cells cs => cases he
          | arr k es =>
            simp only [AO.purge] at he
            simp only [fLoadE_arr] at he ⊢
            split at he
            · rename_i hcnd
              rw [if_pos hcnd]
              simp only [takeCells, Bool.false_eq_true, if_false] at he ⊢
              rw [List.head?_map] at he ⊢
              cases hc : ((es.getD i []).drop off).head? with
              | none => rw [hc] at he; cases he
              | some z => rw [hc] at he; cases he; exact ⟨_, .p z, rfl, rfl, rfl⟩
            · cases he
          | obj X => cases he
          | loop k tm => cases he
      | p z =>
        cases z with
        | ro cs =>
          rw [hv, fLoad_ro] at he
          rw [fLoad_ro]
          simp only [takeCells, Bool.false_eq_true, if_false, List.head?_map] at he ⊢
          cases hc : cs.head? with
          | none => rw [hc] at he; cases he
          | some z => rw [hc] at he; cases he; exact ⟨_, .p z, rfl, rfl, rfl⟩
        | val v => rw [hv] at he; cases he
        | sl es => rw [hv] at he; cases he
      | _ => rw [hv] at he; cases he
    · rw [hx, e1] at he; cases he
  | fieldAddr t x f =>
    have hx := hρ x (by simp [Op.operands])
    left
    rcases purge_cases n (ρ x) with e1 | e1
    · have hxx : ρ' x = ρ x := hx.trans e1
      simp only [eff, hxx] at he ⊢
      split at he
      · split at he
        · split at he
          · cases he
          · rename_i hz
            rw [if_neg hz]
            split at he
            · rename_i m off hv
              cases he
              exact ⟨_, _, rfl, (if_pos (hgood _ rfl)).symm, rfl⟩
            · rename_i m k i off hv
              cases he
              exact ⟨_, _, rfl, (if_pos (hgood _ rfl)).symm, rfl⟩
            · cases he
              exact ⟨_, _, rfl, rfl, rfl⟩
            · cases he
        · cases he
      · cases he
    · simp only [eff, hx, e1] at he
      split at he
      · split at he
        · split at he <;> cases he
        · cases he
      · cases he
  | build t parts =>
    left
    have key : ∀ p ∈ parts.toList, ρ' p.2 = (ρ p.2).purge n := fun p hp => hρ p.2 (by simp only [Op.operands]; exact List.mem_map.2 ⟨p, hp, rfl⟩)
    simp only [eff] at he ⊢
    split at he
    · rename_i hz
      rw [if_pos hz]
      split at he
      · split at he
        · cases he
        · rename_i hb
          rw [if_neg hb]
          obtain ⟨cs, h1, rfl⟩ := Option.map_eq_some_iff.1 he
          have hs := parts_same key (fillParts_ne h1)
          rw [hs] at h1
          exact ⟨_, .agg cs, rfl, (if_pos (hgood _ rfl)).symm, by rw [h1]; rfl⟩
      · split at he
        · cases he
        · rename_i hb
          rw [if_neg hb]
          obtain ⟨cs, h1, rfl⟩ := Option.map_eq_some_iff.1 he
          have hs := parts_same key (fillParts_ne h1)
          rw [hs] at h1
          exact ⟨_, .agg cs, rfl, (if_pos (hgood _ rfl)).symm, by rw [h1]; rfl⟩
      · cases he
    · cases he
  | buildSlice t len parts =>
    right
    have key : ∀ p ∈ parts.toList, ρ' p.2 = (ρ p.2).purge n := fun p hp => hρ p.2 (by simp only [Op.operands]; exact List.mem_map.2 ⟨p, hp, rfl⟩)
    simp only [eff] at he ⊢
    split at he
    · split at he
      · rename_i es h1
        have hs := parts_same key (partElems_ne h1)
        rw [hs] at h1
        rw [h1]
        dsimp only
        split at he
        · rename_i hc
          rw [if_pos hc]
          cases he
          exact ⟨_, _, _, rfl, rfl⟩
        · cases he
      · cases he
    · cases he
  | indexAddr t x i =>
    left
    have hx := hρ x (by simp [Op.operands])
    have hi := hρ i (by simp [Op.operands])
    have hii : ρ' i = ρ i ∨ ρ' i = .undef := by
      rcases purge_cases n (ρ i) with e1 | e1
      · exact .inl (hi.trans e1)
      · exact .inr (hi.trans e1)
    have hxx : ρ' x = ρ x ∨ ρ' x = .undef := by
      rcases purge_cases n (ρ x) with e1 | e1
      · exact .inl (hx.trans e1)
      · exact .inr (hx.trans e1)
    rcases hii with hii | hii
    · rcases hxx with hxx | hxx
      · have hcl : ρ x ≠ .undef → (ρ x).clean n = true := fun hu => purge_id (hx.symm.trans hxx) hu
        simp only [eff, hii, hxx] at he ⊢
        split at he
        · split at he
          · split at he
            · rename_i hc
              rw [if_pos hc]; cases he
              exact ⟨_, _, rfl, rfl, rfl⟩
            · cases he
          · rename_i m len hv
            have hcl := hcl (by rw [hv]; intro h; cases h)
            rw [hv] at hcl
            have hmn : m ≠ n := fun em => by simp [AV.clean, em] at hcl
            rw [ho m hmn] at he
            cases hm : os m with
            | none => rw [hm] at he; cases he
            | some o =>
              rw [hm] at he
              cases o with
              | arr k es =>
                simp only [Option.map_some, AO.purge] at he ⊢
                split at he
                · rename_i hc
                  rw [if_pos hc]; cases he
                  exact ⟨_, _, rfl, (if_pos (hgood _ rfl)).symm, rfl⟩
                · cases he
              | cells cs => cases he
              | obj X => cases he
              | loop k tm => cases he
          · rename_i m off k len hv
            split at he
            · rename_i hc
              rw [if_pos hc]; cases he
              exact ⟨_, _, rfl, (if_pos (hgood _ rfl)).symm, rfl⟩
            · cases he
          · cases he
        · split at he
          · rename_i m off hv
            split at he
            · rename_i hc
              rw [if_pos hc]; cases he
              exact ⟨_, _, rfl, (if_pos (hgood _ rfl)).symm, rfl⟩
            · cases he
          · split at he
            · rename_i hc
              rw [if_pos hc]; cases he
              exact ⟨_, _, rfl, rfl, rfl⟩
            · cases he
          · cases he
        · cases he
      · simp only [eff, hxx] at he
        split at he <;> first | cases he | (split at he <;> cases he)
    · simp only [eff, hii] at he
      split at he <;> first | contradiction | (cases he; done)
  | _ => simp [xop] at h
theorem elems_os {x : AV} (h : ∀ m, x.clean m = false → os' m = os m) : elems? os' x = elems? os x := by
  cases x with
  | own m len => simp only [elems?]; rw [h m (by simp [AV.clean])]
  | csl m off k len => simp only [elems?]; rw [h m (by simp [AV.clean])]
  | _ => rfl
theorem app_os (h : lapp op = true) (ho : ∀ x ∈ op.operands.toList, ∀ m, (ρ x).clean m = false → os' m = os m) : eff P d op ρ os' = eff P d op ρ os := by
  unfold lapp at h
  split at h
  · rename_i az ts
    have hm : ∀ x ∈ az.toList, ∀ m, (ρ x).clean m = false → os' m = os m := fun x hx => ho x (by simp [Op.operands, Call.operands]; simpa using hx)
    simp only [eff]
    cases hts : ts.toList with
    | nil => rfl
    | cons t r => cases r with
      | nil => rfl
      | cons t' r => cases r with
        | cons _ _ => rfl
        | nil => cases hargs : az.toList with
          | nil => rfl
          | cons x l => cases l with
            | nil => rfl
            | cons y l => cases l with
              | cons _ _ => rfl
              | nil =>
                rw [hargs] at hm
                have h1 := hm x (by simp)
                have h2 := elems_os (hm y (by simp))
                simp only [h2]
                by_cases hz : ∃ n len, ρ x = .own n len
                · obtain ⟨n, len, e⟩ := hz
                  rw [e] at h1 ⊢
                  have h3 := h1 n (by simp [AV.clean])
                  simp only [h3]
                · split
                  · split
                    · split
                      · split
                        · rename_i e; simp only []
                        · rename_i n len e; exact absurd ⟨n, len, e⟩ hz
                        · rfl
                      · rfl
                    · rfl
                  · rfl
  · cases h
def FreeI (r : RB) (s : St) (i : Oper) : Prop := ∀ d, i.dst = some d → s.o (r.b + d) = none
def NewOnly (r : RB) (o : Oper) (s s1 : St) : Prop := ∀ m, s.o m = none → (∀ d, o.dst = some d → m ≠ r.b + d) → s1.o m = none
def plainOp (v : List Nat) (o : Oper) : Bool := o.guard.isNone && !isM o.op && !isV v o.op && !goCall o.op && !isDefer o.op && (qop o.op || lapp o.op || lsto o.op)
theorem plain_spec {v : List Nat} {o : Oper} (h : plainOp v o = true) : o.guard = none ∧ isM o.op = false ∧ isV v o.op = false ∧ goCall o.op = false ∧ isDefer o.op = false ∧ (qop o.op = true ∨ lapp o.op = true ∨ lsto o.op = true) := by
  simp only [plainOp, Bool.and_eq_true, Bool.or_eq_true, Bool.not_eq_true', Option.isNone_iff_eq_none] at h
  obtain ⟨⟨⟨⟨⟨h1, h2⟩, h3⟩, h4⟩, h5⟩, h6⟩ := h
  exact ⟨h1, h2, h3, h4, h5, h6.elim (fun h => h.elim .inl fun h => .inr (.inl h)) fun h => .inr (.inr h)⟩
theorem plain_step {o : Oper} (h : plainOp r.v o = true) (hc : s.closed) {e : Eff} {s1 : St} (he : eff P (r.b + o.dst.getD 0) o.op (ev s.t) s.o = some e) (hs : e.apply r.b o.dst s = some s1) : s1.closed ∧ NewOnly r o s s1 := by
  obtain ⟨h1, h2, h3, h4, h5, h6⟩ := plain_spec h
  rcases h6 with h6 | h6 | h6
  · have hg := eff_good (P := P) (d := r.b + o.dst.getD 0) h6 h4 hc e he
    cases e with
    | pure x =>
      cases hs
      exact ⟨lives_put hc hg, fun m hm _ => by cases o.dst <;> exact hm⟩
    | new a x =>
      obtain ⟨d, hd, hn, rfl⟩ := apply_new' hs
      refine ⟨lives_new hc hg.1 (fun m hm => by have := hg.2 m hm; rw [hd] at this; exact this), fun m hm hne => ?_⟩
      show upd s.o (r.b + d) _ m = none
      rw [upd_other (hne d hd)]; exact hm
    | upd n a => exact hg.elim
    | app n a x => exact hg.elim
  · rcases app_kind h6 he with ⟨k, es, len, rfl⟩ | ⟨n, k, es, len, rfl⟩
    · obtain ⟨d, hd, _, rfl⟩ := apply_new' hs
      refine ⟨lives_new hc (AO.lives_arr _ _ _) (fun m hm => by rw [hd] at hm; exact clean_own m hm), fun m hm hne => ?_⟩
      show upd s.o (r.b + d) _ m = none
      rw [upd_other (hne d hd)]; exact hm
    · obtain ⟨d, hd, _, rfl⟩ := apply_app' hs
      refine ⟨lives_new (closed_purge hc n) (AO.lives_arr _ _ _) (fun m hm => by rw [hd] at hm; exact clean_own m hm), fun m hm hne => ?_⟩
      show upd (s.purge n).o (r.b + d) _ m = none
      rw [upd_other (hne d hd)]
      by_cases e : m = n
      · subst e; exact St.purge_o_same ..
      · rw [St.purge_o_other s e, hm]; rfl
  · obtain ⟨n, ob, rfl, h5, h7⟩ := sto_kind h6 hc he
    cases hs
    refine ⟨lives_put (closed_setO hc h5) (AV.lives_undef _), fun m hm _ => ?_⟩
    have : ((s.setO n ob).put o.dst .undef).o m = upd s.o n (some ob) m := by cases o.dst <;> rfl
    rw [this, upd_other (fun e => by subst e; rw [hm] at h7; cases h7)]
    exact hm
theorem swap_app_x {j i : Oper} {l : List Oper} {K : St → Prop} (hj : lapp j.op = true) (hjg : j.guard = none) (hi : xop P i.op = true) (hig : i.guard = none) (hap : j.apart all.toArray i = true) (hc : s.closed) (hfr : FreeI r s i) (hE : EL P r N all (j :: i :: l) s K) : EL P r N all (i :: j :: l) s K := by
  obtain ⟨f1, f2, f3⟩ := app_flags hj
  obtain ⟨q1, q2, q3, q4⟩ := xop_q hi
  obtain ⟨a1, a2, a3⟩ := Oper.apart_spec hap
  rw [EL_some hjg f1 f2 f3] at hE
  obtain ⟨h1, e, s1, he, hs1, h2⟩ := hE
  rw [EL_some hig q2 q3 q4] at h2
  obtain ⟨h3, e2, s2, he2, hs2, h4⟩ := h2
  have hlook : ∀ x ∈ i.op.operands.toList, ∀ d, j.dst = some d → x ≠ .tmp d := fun x hx d hd hxd => a1 d hd (ops_looks hx hxd)
  have hlook2 : ∀ x ∈ j.op.operands.toList, ∀ d, i.dst = some d → x ≠ .tmp d := fun x hx d hd hxd => a3 d hd (ops_looks hx hxd)
  have done : ∀ s' e2', eff P (r.b + i.dst.getD 0) i.op (ev s.t) s.o = some e2' → e2'.apply r.b i.dst s = some s' → eff P (r.b + j.dst.getD 0) j.op (ev s'.t) s'.o = some e → e.apply r.b j.dst s' = some s2 → EL P r N all (i :: j :: l) s K := fun s' e2' g1 g2 g3 g4 => by
    rw [EL_some hig q2 q3 q4]
    refine ⟨h3, e2', s', g1, g2, ?_⟩
    rw [EL_some hjg f1 f2 f3]
    exact ⟨h1, e, s2, g3, g4, h4⟩
  have live : ∀ x : Operand, ∀ m, (ev s.t x).clean m = false → (s.o m).isSome = true := fun x m hm => ev_lives' hc x m hm
  rcases app_kind hj he with ⟨k, es, len, rfl⟩ | ⟨n, k, es, len, rfl⟩
  · obtain ⟨d, hd, hn, rfl⟩ := apply_new' hs1
    have he0 : eff P (r.b + i.dst.getD 0) i.op (ev s.t) s.o = some e2 := by
      rw [← he2]
      refine (eff_local q1 q2 ⟨fun x hx => ev_upd (hlook x hx d hd), fun x hx m hm => ?_⟩).symm
      show upd s.o (r.b + d) _ m = s.o m
      refine upd_other fun em => ?_
      have := live x m hm
      rw [em, hn] at this; cases this
    have hg := eff_good (P := P) (d := r.b + i.dst.getD 0) q1 q2 hc e2 he0
    cases e2 with
    | pure y =>
      have hs2 : s2 = ((s.setO (r.b + d) (.arr k es)).put (some d) (.own (r.b + j.dst.getD 0) len)).put i.dst y := by cases hs2; rfl
      have ho : (s.put i.dst y).o = s.o := by cases i.dst <;> rfl
      refine done (s.put i.dst y) (.pure y) he0 rfl ?_ ?_
      · rw [ho, ← he]; exact app_local hj fun x hx => ev_put (hlook2 x hx)
      · rw [hs2, hd]
        have : ((s.put i.dst y).o (r.b + d)).isNone = true := by rw [ho, hn]; rfl
        simp only [Eff.apply, this, if_true, Option.some.injEq]
        cases hid : i.dst with
        | none => rfl
        | some d2 =>
          have hne : d2 ≠ d := fun e => a2 d hd (by rw [hid, e])
          simp only [St.put, St.setO, upd_comm hne]
    | new a x =>
      obtain ⟨d2, hd2, hn2, rfl⟩ := apply_new' hs2
      have hne : d2 ≠ d := fun e => a2 d hd (by rw [hd2, e])
      have hfree := hfr d2 hd2
      refine done ((s.setO (r.b + d2) a).put (some d2) x) (.new a x) he0 (by rw [hd2]; simp [Eff.apply, hfree]) ?_ ?_
      · rw [← he]
        have e1 : eff P (r.b + j.dst.getD 0) j.op (ev ((s.setO (r.b + d2) a).put (some d2) x).t) ((s.setO (r.b + d2) a).put (some d2) x).o = eff P (r.b + j.dst.getD 0) j.op (ev s.t) ((s.setO (r.b + d2) a).put (some d2) x).o := app_local hj fun x hx => ev_upd (hlook2 x hx d2 hd2)
        rw [e1]
        refine app_os hj fun x hx m hm => ?_
        show upd s.o (r.b + d2) _ m = s.o m
        refine upd_other fun em => ?_
        have := live x m hm
        rw [em, hfree] at this; cases this
      · rw [hd]
        have : (((s.setO (r.b + d2) a).put (some d2) x).o (r.b + d)).isNone = true := by
          show (upd s.o (r.b + d2) _ (r.b + d)).isNone = true
          rw [upd_other (by omega), hn]; rfl
        simp only [Eff.apply, this, if_true, Option.some.injEq]
        simp only [St.put, St.setO]
        rw [upd_comm (f := s.t) hne, upd_comm (f := s.o) (show r.b + d2 ≠ r.b + d by omega)]
    | upd n a => exact hg.elim
    | app n a x => exact hg.elim
  · obtain ⟨d, hd, hn, rfl⟩ := apply_app' hs1
    have hcp := closed_purge hc n
    have he0 : eff P (r.b + i.dst.getD 0) i.op (ev (s.purge n).t) (s.purge n).o = some e2 := by
      rw [← he2]
      refine (eff_local q1 q2 ⟨fun x hx => ev_upd (hlook x hx d hd), fun x hx m hm => ?_⟩).symm
      show upd (s.purge n).o (r.b + d) _ m = (s.purge n).o m
      refine upd_other fun em => ?_
      have := ev_lives' hcp x m hm
      rw [em, hn] at this; cases this
    have hg := eff_good (P := P) (d := r.b + i.dst.getD 0) q1 q2 hcp e2 he0
    have hgood : ∀ y, e2 = .pure y → y.clean n = true := fun y hy => by
      subst hy
      cases hcl : y.clean n with
      | true => rfl
      | false =>
        have := hg n hcl
        rw [St.purge_o_same] at this; cases this
    rcases x_unpurge hi (fun x _ => ev_purge x) (fun m hm => St.purge_o_other s hm) he0 hgood with ⟨y, y', rfl, hy, he'⟩ | ⟨k2, es2, len2, rfl, he'⟩
    · have hs2 : s2 = (((s.purge n).setO (r.b + d) (.arr k es)).put (some d) (.own (r.b + j.dst.getD 0) len)).put i.dst y := by cases hs2; rfl
      have ho : (s.put i.dst y').o = s.o := by cases i.dst <;> rfl
      refine done (s.put i.dst y') (.pure y') he' rfl ?_ ?_
      · rw [ho, ← he]; exact app_local hj fun x hx => ev_put (hlook2 x hx)
      · rw [hs2, hd]
        have hp : ((s.put i.dst y').purge n).o = (s.purge n).o := by cases i.dst <;> rfl
        have : (((s.put i.dst y').purge n).o (r.b + d)).isNone = true := by rw [hp, hn]; rfl
        simp only [Eff.apply, this, if_true, Option.some.injEq]
        cases hid : i.dst with
        | none => rfl
        | some d2 =>
          have hne : d2 ≠ d := fun e => a2 d hd (by rw [hid, e])
          simp only [St.put, St.setO]
          congr 1
          show upd (fun i => (upd s.t d2 y' i).purge n) d _ = upd (upd (fun i => (s.t i).purge n) d _) d2 y
          rw [upd_comm (Ne.symm hne)]
          congr 1
          funext q
          unfold upd
          by_cases hq : q = d2
          · subst hq; simp [hy]
          · simp [hq]
    · obtain ⟨d2, hd2, hn2, rfl⟩ := apply_new' hs2
      have hne : d2 ≠ d := fun e => a2 d hd (by rw [hd2, e])
      have hfree := hfr d2 hd2
      have hown : (AV.own (r.b + i.dst.getD 0) len2).purge n = .own (r.b + i.dst.getD 0) len2 := by
        refine if_pos ?_
        obtain ⟨k3, es3, h3⟩ := app_own hj he
        simp only [AV.clean, hd2, Option.getD_some, bne_iff_ne, ne_eq]
        intro em
        rw [← em, hfree] at h3; cases h3
      have hnn : r.b + d2 ≠ n := fun em => by
        obtain ⟨k3, es3, h3⟩ := app_own hj he
        rw [← em, hfree] at h3; cases h3
      refine done ((s.setO (r.b + d2) (.arr k2 es2)).put (some d2) (.own (r.b + i.dst.getD 0) len2)) _ he' (by rw [hd2]; simp [Eff.apply, hfree]) ?_ ?_
      · rw [← he]
        have e1 : eff P (r.b + j.dst.getD 0) j.op (ev ((s.setO (r.b + d2) (.arr k2 es2)).put (some d2) (.own (r.b + i.dst.getD 0) len2)).t) ((s.setO (r.b + d2) (.arr k2 es2)).put (some d2) (.own (r.b + i.dst.getD 0) len2)).o = eff P (r.b + j.dst.getD 0) j.op (ev s.t) ((s.setO (r.b + d2) (.arr k2 es2)).put (some d2) (.own (r.b + i.dst.getD 0) len2)).o := app_local hj fun x hx => ev_upd (hlook2 x hx d2 hd2)
        rw [e1]
        refine app_os hj fun x hx m hm => ?_
        show upd s.o (r.b + d2) _ m = s.o m
        refine upd_other fun em => ?_
        have := live x m hm
        rw [em, hfree] at this; cases this
      · rw [hd]
        have hpo : (((s.setO (r.b + d2) (.arr k2 es2)).put (some d2) (.own (r.b + i.dst.getD 0) len2)).purge n).o = upd (s.purge n).o (r.b + d2) (some (.arr k2 es2)) := by
          funext m
          show (if m = n then none else (upd s.o (r.b + d2) (some (.arr k2 es2)) m).map (AO.purge n)) = _
          by_cases em : m = r.b + d2
          · subst em
            rw [if_neg hnn]
            unfold upd; simp [AO.purge]
          · rw [upd_other em, upd_other em]; rfl
        have hpt : (((s.setO (r.b + d2) (.arr k2 es2)).put (some d2) (.own (r.b + i.dst.getD 0) len2)).purge n).t = upd (s.purge n).t d2 (.own (r.b + i.dst.getD 0) len2) := by
          funext q
          show (upd s.t d2 (.own (r.b + i.dst.getD 0) len2) q).purge n = upd (fun i => (s.t i).purge n) d2 _ q
          unfold upd
          by_cases hq : q = d2
          · subst hq; simp [hown]
          · simp [hq]
        have : ((((s.setO (r.b + d2) (.arr k2 es2)).put (some d2) (.own (r.b + i.dst.getD 0) len2)).purge n).o (r.b + d)).isNone = true := by
          rw [hpo, upd_other (by omega), hn]; rfl
        simp only [Eff.apply, this, if_true, Option.some.injEq]
        simp only [St.put, St.setO] at hpo hpt ⊢
        rw [hpo, hpt]
        rw [upd_comm (f := (s.purge n).t) hne, upd_comm (f := (s.purge n).o) (show r.b + d2 ≠ r.b + d by omega)]
end
end AM
end
/- The abstract machine, part 48: regions that draw their order, with appends: the check. -/
section
namespace AM
open Go
section
variable {P : Program} {r : RB} {N : Nat} {all : List Oper} {s : St}
theorem stepsF {o : Oper} (h : plainOp r.v o = true) {l l' : List Oper} {K : St → Prop} (hc : s.closed) (hl : ∀ s1 : St, s1.closed → NewOnly r o s s1 → EL P r N all l s1 K → EL P r N all l' s1 K) (hE : EL P r N all (o :: l) s K) : EL P r N all (o :: l') s K := by
  obtain ⟨h1, h2, h3, h4, h5, h6⟩ := plain_spec h
  rw [EL_some h1 h4 h5 h2] at hE ⊢
  obtain ⟨g1, e, s1, g2, g3, g4⟩ := hE
  obtain ⟨k1, k2⟩ := plain_step h hc g2 g3
  exact ⟨g1, e, s1, g2, g3, hl s1 k1 k2 g4⟩
def appX (P : Program) (ops : List Oper) (oj oi : Oper) : Bool := lapp oj.op && oj.guard.isNone && xop P oi.op && oi.guard.isNone && oj.apart ops.toArray oi
theorem bubble5 {D : (Nat → AV) → Prop} {oi : Oper} {post : List Oper} {K : St → Prop} (hK : ∀ s' : St, K s' → D s'.t) : ∀ {pre : List Oper} {s : St}, s.closed → (xop P oi.op = true → FreeI r s oi) → (∀ p1 oj p2, pre = p1 ++ oj :: p2 → plainOp r.v oj = true ∧ (∀ d, oi.dst = some d → oj.dst ≠ some d) ∧ (SwapAt P r N all D oj oi (p2 ++ post) ∨ appX P all oj oi = true)) →
    EL P r N all (pre ++ oi :: post) s K → EL P r N all (oi :: (pre ++ post)) s K
  | [], _, _, _, _, h => h
  | oj :: pre, s, hc, hf, hp, h => by
    obtain ⟨hj1, hj2, hj3⟩ := hp [] oj pre rfl
    have h1 := stepsF (l' := oi :: (pre ++ post)) hj1 hc (fun s1 hc1 hn h1 => bubble5 hK hc1 (fun hx d hd => hn _ (hf hx d hd) (fun d2 hd2 e => by
      have e : d = d2 := Nat.add_left_cancel e
      subst e
      exact hj2 d hd hd2)) (fun p1 o2 p2 e => hp (oj :: p1) o2 p2 (by rw [e]; rfl)) h1) h
    rcases hj3 with hj3 | hj3
    · exact hj3 s K hc hK h1
    · simp only [appX, Bool.and_eq_true, Option.isNone_iff_eq_none] at hj3
      obtain ⟨⟨⟨⟨k1, k2⟩, k3⟩, k4⟩, k5⟩ := hj3
      exact swap_app_x k1 k2 k3 k4 k5 hc (hf k3) h1
end
section
variable {P : Program} {r : RB} {N : Nat} {ops : List Oper}
theorem el_headF {o : Oper} {l : List Oper} {s : St} {K : St → Prop} {i : Nat} {B : Nat} {S : Nat → Prop} {θ : Nat → Loc} {M : Nat → Prop} {w : World} {a : Act} {Q : Exit → Act → World → Prop}
    (hp : plainOp r.v o = true) (hi : ops[i]? = some o) (hs : SRel N B S θ M w s a) (h : EL P r N ops (o :: l) s K) :
    wpOpIn (Wd r.rd) 0 P ops.toArray Q i (fun a' w' => ∃ s1, (EL P r N ops l s1 K ∧ NewOnly r o s s1) ∧ Fin r N B S θ M w a s1 a' w') a w := by
  obtain ⟨h1, h2, h3, h4, h5, h6⟩ := plain_spec hp
  rw [EL_some h1 h4 h5 h2] at h
  obtain ⟨g1, e, s1, g2, g3, g4⟩ := h
  obtain ⟨_, k2⟩ := plain_step hp hs.cl g2 g3
  have hi' : ops.toArray[i]? = some o := by simpa using hi
  unfold wpOpIn
  simp only [hi']
  have hw : Region.wanted o (yielded ops.toArray a.tmps) = true := by unfold Region.wanted; rw [h1]
  rw [if_pos hw]
  have hEO : EO P r N o s (fun s' => EL P r N ops l s' K ∧ NewOnly r o s s') := by
    unfold EO
    rw [h2, h3, h4, h5]
    simp only [Bool.false_eq_true, if_false, true_and]
    refine ⟨g1, ?_⟩
    unfold EA
    simp only [g2, g3]
    exact ⟨g4, k2⟩
  exact EO_sound hEO B S θ M w a Q hs
theorem any_text5 {D : (Nat → AV) → Prop} {b : Nat → Nat} (hb : Masks ops b) (hpl : ∀ (i : Nat) (o : Oper), ops[i]? = some o → plainOp r.v o = true)
    (hdist : ∀ (i j : Nat) (oi oj : Oper), i ≠ j → ops[i]? = some oi → ops[j]? = some oj → ∀ d, oi.dst = some d → oj.dst ≠ some d)
    (hsw : ∀ (i j : Nat) (oi oj : Oper) (rest : List Nat), j < i → ops[i]? = some oi → ops[j]? = some oj → (b i).testBit j = false → (∀ k ∈ rest, j < k ∧ k ≠ i ∧ (k < i → (b i).testBit k = false)) → SwapAt P r N ops D oj oi (rest.filterMap (ops[·]?)) ∨ appX P ops oj oi = true)
    {K : St → Prop} (hK : ∀ s' : St, K s' → D s'.t) {Q : Exit → Act → World → Prop} :
    ∀ (fuel : Nat) (listed : Array Bool) (s : St) (B : Nat) (S : Nat → Prop) (θ : Nat → Loc) (M : Nat → Prop) (w : World) (a : Act), SRel N B S θ M w s a → listed.size = ops.length → ClosedL ops listed → (∀ i ∈ remI ops.length listed, ∀ o, ops[i]? = some o → xop P o.op = true → FreeI r s o) → (remI ops.length listed).length ≤ fuel →
      EL P r N ops ((remI ops.length listed).filterMap (ops[·]?)) s K → (∀ s' a' w', K s' → Fin r N B S θ M w a s' a' w' → Q .normal a' w') → wpAnyIn (Wd r.rd) 0 P .any ops.toArray Q fuel listed a w := by
  intro fuel
  have hready : ∀ {listed : Array Bool} {x : Nat}, x ∈ Region.ready .any ops.toArray listed → x ∈ remI ops.length listed := fun h => ((mem_ready rfl).1 h).1
  induction fuel with
  | zero =>
    intro listed s B S θ M w a hs hsz hcl hfr hf hE hQ
    have hnil : remI ops.length listed = [] := List.length_eq_zero_iff.1 (by omega)
    refine ⟨List.eq_nil_iff_forall_not_mem.2 fun x hx => ?_, ?_⟩
    · have := hready hx
      rw [hnil] at this; cases this
    · rw [hnil] at hE
      exact hQ s a w hE ⟨AdvM.refl hs, rfl⟩
  | succ fuel ih =>
    intro listed s B S θ M w a hs hsz hcl hfr hf hE hQ
    refine ⟨fun hr => ?_, fun i hi => ?_⟩
    · have hnil : remI ops.length listed = [] := by
        cases hrem : remI ops.length listed with
        | nil => rfl
        | cons x l =>
          exfalso
          have hx : x ∈ remI ops.length listed := by rw [hrem]; simp
          have hsort : (remI ops.length listed).Pairwise (· < ·) := (List.pairwise_lt_range).filter _
          rw [hrem, List.pairwise_cons] at hsort
          obtain ⟨hxn, hxl⟩ := mem_remI.1 hx
          have : x ∈ Region.ready .any ops.toArray listed := (mem_ready rfl).2 ⟨hx, ops[x], by simp [hxn], fun e he hbe => by
            have hlt := hb.lt x ops[x] (by simp [hxn]) e he hbe
            cases hl : listed.getD e.on false with
            | true => rfl
            | false =>
              exfalso
              have hen : e.on < ops.length := Nat.lt_trans hlt hxn
              have : e.on ∈ remI ops.length listed := mem_remI.2 ⟨hen, by
                rw [Array.getD_eq_getD_getElem?] at hl ⊢
                have hsz' : e.on < listed.size := by omega
                simp only [Array.getElem?_eq_getElem hsz', Option.getD_some] at hl ⊢
                exact hl⟩
              rw [hrem] at this
              rcases List.mem_cons.1 this with h | h
              · omega
              · have := hsort.1 _ h; omega⟩
          rw [hr] at this; cases this
      rw [hnil] at hE
      exact hQ s a w hE ⟨AdvM.refl hs, rfl⟩
    · obtain ⟨hrem, o, ho, hafter⟩ := (mem_ready rfl).1 hi
      obtain ⟨pre, post, he, hpre, hset⟩ := remI_split hsz hrem
      have hsort : (pre ++ i :: post).Pairwise (· < ·) := by rw [← he]; exact (List.pairwise_lt_range).filter _
      have hnl : ∀ k ∈ pre ++ i :: post, listed.getD k true = false := fun k hk => (mem_remI.1 (show k ∈ remI ops.length listed by rw [he]; exact hk)).2
      have hne : ∀ k ∈ pre ++ post, k ≠ i := fun k hk e => by
        subst e
        have h4 := List.pairwise_append.1 hsort
        rcases List.mem_append.1 hk with h | h
        · have := h4.2.2 k h k (by simp); omega
        · have := (List.pairwise_cons.1 h4.2.1).1 k h; omega
      have hfree : ∀ k ∈ pre ++ post, k < i → (b i).testBit k = false := fun k hk hki => by
        cases ht : (b i).testBit k with
        | false => rfl
        | true =>
          have h1 := masks_listed hb hcl i o ho hafter hki ht
          have h2 := hnl k (by
            rcases List.mem_append.1 hk with h | h
            · simp [h]
            · simp [h])
          rw [getD_tf h2] at h1; cases h1
      rw [he, List.filterMap_append, List.filterMap_cons] at hE
      simp only [ho] at hE
      have hE' := bubble5 hK hs.cl (fun hx => hfr i hrem o ho hx) (fun p1 oj p2 hp => by
        obtain ⟨l1, j, l2, e1, e2, e3⟩ := filterMap_split hp
        have hjp : j ∈ pre := by rw [e1]; simp
        refine ⟨hpl j oj e2, hdist i j o oj (by have := hpre j hjp; omega) ho e2, ?_⟩
        have := hsw i j o oj (l2 ++ post) (hpre j hjp) ho e2 (hfree j (by simp [hjp]) (hpre j hjp)) (fun k hk => by
          rw [e1, List.append_assoc, List.pairwise_append] at hsort
          have h3 := (List.pairwise_cons.1 hsort.2.1).1
          have hk' : k ∈ l2 ++ i :: post := by
            rcases List.mem_append.1 hk with h | h
            · simp [h]
            · simp [h]
          refine ⟨h3 k hk', hne k (by
            rcases List.mem_append.1 hk with h | h
            · rw [e1]; simp [h]
            · simp [h]), hfree k (by
            rcases List.mem_append.1 hk with h | h
            · rw [e1]; simp [h]
            · simp [h])⟩)
        rw [List.filterMap_append, e3] at this
        exact this) hE
      refine wpOpIn_mono ?_ (el_headF (hpl i o ho) ho hs hE')
      rintro a' w' ⟨s1, ⟨hE1, hN1⟩, hF⟩
      obtain ⟨θ', M', hs', hcomp⟩ := hF.comp
      refine ih _ s1 B S θ' M' w' a' hs' (by simpa using hsz) ?_ ?_ ?_ ?_ (fun s' a'' w'' hK hF' => hQ s' a'' w'' hK (hcomp _ _ _ hF'))
      · intro k ok hk hl e hek hbe
        have hmono : ∀ m, listed.getD m false = true → (listed.setIfInBounds i true).getD m false = true := fun m hm => by
          rw [Array.getD_eq_getD_getElem?] at hm ⊢
          rw [Array.getElem?_setIfInBounds]
          split
          · split <;> simp_all
          · exact hm
        by_cases hki : k = i
        · subst hki
          rw [ho] at hk; cases hk
          exact hmono _ (hafter e hek hbe)
        · have : listed.getD k false = true := by
            rw [Array.getD_eq_getD_getElem?] at hl ⊢
            rw [Array.getElem?_setIfInBounds, if_neg (Ne.symm hki)] at hl
            exact hl
          exact hmono _ (hcl k ok hk this e hek hbe)
      · intro k hk ok hok hx d hd
        rw [hset] at hk
        have hki := hne k hk
        refine hN1 _ (hfr k (by rw [he]; rcases List.mem_append.1 hk with h | h <;> simp [h]) ok hok hx d hd) fun d2 hd2 e => ?_
        have e : d = d2 := Nat.add_left_cancel e
        subst e
        exact hdist k i ok o hki hok ho d hd hd2
      · rw [hset]
        rw [he] at hf
        simp only [List.length_append, List.length_cons] at hf ⊢
        omega
      · rw [hset, List.filterMap_append]
        exact hE1
def pair5 (P : Program) (v q : List Nat) (ops tl : List Oper) (m : Nat) (i j : Nat) (oi oj : Oper) : Option (List Cf) := match pair3 P v q ops tl m i j oi oj with
  | some c => some c
  | none => if appX P ops oj oi = true then some [] else none
def row5 (P : Program) (v q : List Nat) (ops tl : List Oper) (m i : Nat) (oi : Oper) : List (Oper × Nat) → Option (List Cf)
  | [] => some []
  | (oj, j) :: r => if m.testBit j = true then row5 P v q ops tl m i oi r else
    match pair5 P v q ops tl m i j oi oj, row5 P v q ops tl m i oi r with
    | some a, some b => some (a ++ b)
    | _, _ => none
def rows5 (P : Program) (v q : List Nat) (ops tl : List Oper) (b : Nat → Nat) : List (Oper × Nat) → Option (List Cf)
  | [] => some []
  | (oi, i) :: r => match row5 P v q ops tl (b i) i oi (ops.take i).zipIdx, rows5 P v q ops tl b r with
    | some a, some c => some (a ++ c)
    | _, _ => none
def dstsOk : List Oper → Bool
  | [] => true
  | o :: l => (l.all fun p => match o.dst, p.dst with
    | some a, some b => a != b
    | _, _ => true) && dstsOk l
def chkAny5 (P : Program) (v q : List Nat) (ops : List Oper) (cfs : List Cf) : Bool := (ops.all (plainOp v)) && (dstsOk ops && masksGo ops [] fun l => maskOk ops (fun i => l.getD i 0) && match rows5 P v q ops ops (fun i => l.getD i 0) ops.zipIdx with
  | some c => cfsEq c cfs
  | none => false)
theorem dstsOk_spec : ∀ {ops : List Oper}, dstsOk ops = true → ∀ (i j : Nat) (oi oj : Oper), i ≠ j → ops[i]? = some oi → ops[j]? = some oj → ∀ d, oi.dst = some d → oj.dst ≠ some d
  | [], _, i, _, _, _, _, hi, _, _, _ => by simp at hi
  | o :: l, h, i, j, oi, oj, hij, hi, hj, d, hd => by
    simp only [dstsOk, Bool.and_eq_true] at h
    obtain ⟨h1, h2⟩ := h
    rw [List.all_eq_true] at h1
    have key : ∀ p ∈ l, ∀ d, o.dst = some d → p.dst ≠ some d := fun p hp d hd hp2 => by
      have := h1 p hp
      rw [hd, hp2] at this
      simp at this
    cases i with
    | zero => cases j with
      | zero => exact absurd rfl hij
      | succ j =>
        simp at hi; subst hi
        simp only [List.getElem?_cons_succ] at hj
        exact key oj (List.mem_of_getElem? hj) d hd
    | succ i => cases j with
      | zero =>
        simp at hj; subst hj
        simp only [List.getElem?_cons_succ] at hi
        exact fun h3 => key oi (List.mem_of_getElem? hi) d h3 hd
      | succ j =>
        simp only [List.getElem?_cons_succ] at hi hj
        exact dstsOk_spec h2 i j oi oj (by omega) hi hj d hd
theorem row5_spec {P : Program} {tl : List Oper} {v q : List Nat} {m i : Nat} {oi : Oper} : ∀ {l : List (Oper × Nat)} {c : List Cf}, row5 P v q ops tl m i oi l = some c → ∀ p ∈ l, m.testBit p.2 = false → ∃ c', pair5 P v q ops tl m i p.2 oi p.1 = some c' ∧ ∀ x ∈ c', x ∈ c
  | [], _, _, p, hp, _ => by cases hp
  | (oj, j) :: l, c, h, p, hp, ht => by
    simp only [row5] at h
    split at h
    · rename_i hj
      rcases List.mem_cons.1 hp with e | hp
      · subst e; rw [ht] at hj; cases hj
      · exact row5_spec h p hp ht
    · split at h
      · rename_i a b h1 h2
        cases h
        rcases List.mem_cons.1 hp with e | hp
        · subst e; exact ⟨a, h1, fun x hx => by simp [hx]⟩
        · obtain ⟨c', g1, g2⟩ := row5_spec h2 p hp ht
          exact ⟨c', g1, fun x hx => by simp [g2 x hx]⟩
      · cases h
theorem rows5_spec {P : Program} {tl : List Oper} {v q : List Nat} {b : Nat → Nat} : ∀ {l : List (Oper × Nat)} {c : List Cf}, rows5 P v q ops tl b l = some c → ∀ p ∈ l, ∃ c', row5 P v q ops tl (b p.2) p.2 p.1 (ops.take p.2).zipIdx = some c' ∧ ∀ x ∈ c', x ∈ c
  | [], _, _, p, hp => by cases hp
  | (oi, i) :: l, c, h, p, hp => by
    simp only [rows5] at h
    split at h
    · rename_i a d h1 h2
      cases h
      rcases List.mem_cons.1 hp with e | hp
      · subst e; exact ⟨a, h1, fun x hx => by simp [hx]⟩
      · obtain ⟨c', g1, g2⟩ := rows5_spec h2 p hp
        exact ⟨c', g1, fun x hx => by simp [g2 x hx]⟩
    · cases h
def freeAt (P : Program) (r : RB) (s : St) (ops : List Oper) : Prop := ∀ o ∈ ops, xop P o.op = true → FreeI r s o
def xdsts (P : Program) : List Oper → List Nat
  | [] => []
  | o :: l => if xop P o.op = true then (match o.dst with | some d => d :: xdsts P l | none => xdsts P l) else xdsts P l
theorem freeAt_of {s : St} : ∀ {ops : List Oper}, (∀ d ∈ xdsts P ops, s.o (r.b + d) = none) → freeAt P r s ops
  | [], _, o, ho, _, _, _ => by cases ho
  | p :: l, h, o, ho, hx, d, hd => by
    rcases List.mem_cons.1 ho with rfl | ho
    · refine h d ?_
      simp only [xdsts, hx, if_true, hd]; simp
    · refine freeAt_of (ops := l) (fun d hd => h d ?_) o ho hx d hd
      simp only [xdsts]
      split
      · split
        · exact List.mem_cons_of_mem _ hd
        · exact hd
      · exact hd
theorem awp_any5 {id : Nat} {st : St} {Q : AEx → St → Prop} (cfs : List Cf) (hm : P.follows .mixedOrders = true) (hchk : chkAny5 P r.v r.q ops cfs = true) (hfr : ∀ d ∈ xdsts P ops, st.o (r.b + d) = none) (h : EL P r N ops ops st (fun s => (cfs.all fun c => c.ok s.t) = true ∧ Q .normal s)) : AWP P r N (.region id ops.toArray true) st Q := by
  unfold chkAny5 at hchk
  simp only [Bool.and_eq_true] at hchk
  obtain ⟨hpl, hds, hchk⟩ := hchk
  rw [List.all_eq_true] at hpl
  obtain ⟨l, hl⟩ := masksGo_k hchk
  rw [Bool.and_eq_true] at hl
  obtain ⟨hl1, hl2⟩ := hl
  clear hchk
  have hrows : rows5 P r.v r.q ops ops (fun i => l.getD i 0) ops.zipIdx = some cfs := by
    revert hl2
    cases rows5 P r.v r.q ops ops (fun i => l.getD i 0) ops.zipIdx with
    | none => intro h; cases h
    | some c => intro h; rw [cfsEq_eq h]
  generalize hbb : (fun i => l.getD i 0) = bb at *
  clear hl2
  intro B S θ M w a hs
  refine wpIn_region_any hm ?_
  have hrem : remI ops.length (Array.replicate ops.length false) = List.range ops.length := remI_start _
  refine any_text5 (D := fun f => ∀ x ∈ cfs, x.ok f = true) (K := fun s => (cfs.all fun c => c.ok s.t) = true ∧ Q .normal s) (maskOk_spec hl1) (fun i o ho => hpl o (List.mem_of_getElem? ho)) (dstsOk_spec hds) (fun i j oi oj rest hji hi hj hbit hrest => ?_) (fun s' hs' => List.all_eq_true.1 hs'.1) ops.toArray.size (Array.replicate ops.toArray.size false) st B S θ M _ a (hs.drawn _) (by simp) (fun k o hk hL => ?_) (fun i _ o ho => freeAt_of hfr o (List.mem_of_getElem? ho)) ?_ ?_ (fun s' a' w' hk hF => ⟨.normal, s', rfl, hk.2, ?_⟩)
  · obtain ⟨c1, g1, g2⟩ := rows5_spec hrows (oi, i) (List.mem_zipIdx_iff_getElem?.2 hi)
    obtain ⟨c2, g3, g4⟩ := row5_spec g1 (oj, j) (List.mem_zipIdx_iff_getElem?.2 (by rw [List.getElem?_take, if_pos hji]; exact hj)) hbit
    unfold pair5 at g3
    split at g3
    · rename_i c3 hc3
      cases g3
      exact .inl (pair3_spec (b := bb) hc3 (fun x hx => g2 x (g4 x hx)) hji hi hj hbit hrest (fun k _ o ho => List.mem_of_getElem? ho)).2
    · split at g3
      · rename_i hx; exact .inr hx
      · cases g3
  · simp only [Array.getD_eq_getD_getElem?, Array.getElem?_replicate] at hL
    split at hL <;> simp at hL
  · simp only [List.size_toArray]; rw [hrem]; simp
  · simp only [List.size_toArray]; rw [hrem, range_filterMap]; exact h
  · obtain ⟨⟨θ', M', h1, h2, h3, h4⟩, h5⟩ := hF
    exact ⟨⟨θ', M', h1, ⟨h2.size, h2.same, h2.os, h2.tape, h2.output⟩, h3, h4⟩, h5⟩
def freeL (os : Nat → Option AO) (b : Nat) : List Nat → Prop
  | [] => True
  | d :: l => os (b + d) = none ∧ freeL os b l
theorem freeL_mem {os : Nat → Option AO} {b : Nat} : ∀ {l : List Nat}, freeL os b l → ∀ d ∈ l, os (b + d) = none
  | [], _, d, hd => by cases hd
  | x :: l, h, d, hd => by
    rcases List.mem_cons.1 hd with rfl | hd
    · exact h.1
    · exact freeL_mem h.2 d hd
theorem xdsts_sub : ∀ {ops : List Oper}, ∀ d ∈ xdsts P ops, d ∈ ops.filterMap (·.dst)
  | [], d, hd => by cases hd
  | o :: l, d, hd => by
    have ih := xdsts_sub (ops := l) d
    simp only [xdsts] at hd
    rw [List.filterMap_cons]
    split at hd
    · split at hd
      · rename_i d2 hd2
        rw [hd2]
        rcases List.mem_cons.1 hd with rfl | hd
        · simp
        · exact List.mem_cons_of_mem _ (ih hd)
      · rename_i hd2
        rw [hd2]; exact ih hd
    · cases o.dst with
      | none => exact ih hd
      | some d2 => exact List.mem_cons_of_mem _ (ih hd)
theorem awp_any5' {id : Nat} {st : St} {Q : AEx → St → Prop} (cfs : List Cf) (ds : List Nat) (hm : P.follows .mixedOrders = true) (hchk : chkAny5 P r.v r.q ops cfs = true) (hds : ops.filterMap (·.dst) = ds) (hfr : freeL st.o r.b ds) (h : EL P r N ops ops st (fun s => (cfs.all fun c => c.ok s.t) = true ∧ Q .normal s)) : AWP P r N (.region id ops.toArray true) st Q :=
  awp_any5 cfs hm hchk (fun d hd => freeL_mem hfr d (by rw [← hds]; exact xdsts_sub d hd)) h
end
end AM
end
/- The law of statements. -/
section
namespace AM.Try
open Go AM AM.Duty
open Nat renaming reduceLT → sA, reduceAdd → sB, reduceMul → sC, reduceSub → sD, reduceLeDiff → sE, reduceEqDiff → sF, reduceBEq → sG
open Int renaming reduceAdd → sH, reduceSub → sI, reduceMul → sJ, reduceLT → sK, reduceLE → sL, reduceNeg → sM, reduceToNat → sN, reduceEq → sO
set_option maxHeartbeats 8000000
set_option maxRecDepth 100000
theorem bnd_small {a : Acc} (hf : faultS a = 0) (hne : (truthsR a).isEmpty = false) {k : Nat} (hk : k < (a.last + 1).toNat) : (-100000000000 ≤ (bndR a k (truthsR a)).1 ∧ (bndR a k (truthsR a)).1 ≤ 100000000000) ∧ -100000000000 ≤ (bndR a k (truthsR a)).2 ∧ (bndR a k (truthsR a)).2 ≤ 100000000000 := by
  obtain ⟨⟨t, ht, e⟩, s, hs, e'⟩ := bnd_hit hf hne hk
  rw [← e, ← e']
  exact ⟨debt_small hf ((mem_truths hf).2 ht) hk, debt_small hf ((mem_truths hf).2 hs) hk⟩
theorem st_play {a : Acc} (_ : faultS a = 0) {k : Nat} (hk : (k : Int) ≤ a.last) {t : List Int} (hls : listedS a.entries t = true) (hd : isTruth a t = true) (hx : faultS (stA a k ((debtsS a t []).1.getD k 0)) = 0) : playA (stA a k ((debtsS a t []).1.getD k 0)) (t ++ [0]) = .tup [isl (debtsS a t []).1, i64 0] := by
  have h1 := st_debts (a := a) (k := (k : Int)) (v := (debtsS a t []).1.getD k 0) (by omega) hk (listed_unit hls).1
  rw [playA_eq, if_pos hx, if_pos ((st_listed ⟨rfl, rfl⟩).2 ⟨t, rfl, hls⟩), h1]
  unfold isTruth at hd
  rw [hd, decide_eq_true (show debtOn a (k : Int).toNat t = (debtsS a t []).1.getD k 0 by rw [Int.toNat_natCast]; rfl)]
  rfl
theorem c15 (a : Acc) (d c b : Nat) (hin : AccIn a) (h1 : d < 65536) (h2 : c < 256) (h3 : b < 256) : PCall Go.Proofs.Try.prog 15 [avA a, .p (.val (.int .u16 (d : Int))), .p (.val (.int .u8 (c : Int))), .p (.val (.int .u8 (b : Int)))] (bl true) := by
  refine pcall_mk (v := []) (q := []) (N := 157) (rs := [.tmp 8]) Go.Proofs.Try.func15 rfl rfl rfl rfl rfl ?_
  have bA := bA4 a
  have hin' := in_of hin
  have hwr : IntKind.i64.wrap (d : Int) = (d : Int) := wrap64 (by omega) (by omega)
  have hwr2 : IntKind.i64.wrap (c : Int) = (c : Int) := wrap64 (by omega) (by omega)
  have hwr3 : IntKind.i64.wrap (b : Int) = (b : Int) := wrap64 (by omega) (by omega)
  have pN : playN a d = .tup [isl (unitsN a d), if isTruth a (unitsN a d) = true then isl (debtsS a (unitsN a d) []).1 else nilS, bl (isTruth a (unitsN a d)), bl true] := rfl
  cases hr : readyS a <;> by_cases hlen : 7 < (a.entries.length : Int) <;> cases hd : isTruth a (unitsN a d) <;> by_cases ho : (b : Int) % 2 = 1
  all_goals
    first
    | (have hrr : thinS a = true ∧ faultS a = 0 := by simpa [readyS] using hr
       obtain ⟨ht, hf⟩ := hrr
       obtain ⟨hl1, hl2⟩ := thin_len ht
       have hla := last_in hf
       have hm : ((a.last + 1).toNat : Int) = a.last + 1 := Int.toNat_of_nonneg (by omega)
       have hdl := debts_full (a := a) (unitsN a d) []
       have htl : (unitsN a d).length = a.entries.length := nth_len _ _
       have hls : listedS a.entries (unitsN a d) = true := by rw [← listed_eq]; exact nth_listed (lo_le hf)
       have hkm : c % (a.last + 1).toNat < (a.last + 1).toNat := Nat.mod_lt _ (by omega)
       have hmod : (c : Int) % (a.last + 1) = ((c % (a.last + 1).toNat : Nat) : Int) := by rw [Int.natCast_emod, hm]
       generalize c % (a.last + 1).toNat = k at hkm hmod)
    | (have hf := hwr; have hm := hwr; have hdl := hwr; have htl := hwr; have hmod := hwr)
    first
    | (have hmem := units_in hf hd
       have hp : (truthsR a).isEmpty = false := not_empty hmem
       have hbs := bnd_small hf hp hkm
       have hs1 : a.entries.map encE ++ [[iv 3, iv (k : Int), iv 0, iv 0, iv ((debtsS a (unitsN a d) []).1.getD k 0)]] = (stA a k ((debtsS a (unitsN a d) []).1.getD k 0)).entries.map encE := by rw [List.map_append]; rfl
       have hs2 : ∀ v : Int, a.entries.map encE ++ [[iv 3, iv (k : Int), iv 0, iv 0, iv v]] = (stA a k v).entries.map encE := fun v => by rw [List.map_append]; rfl
       have hsl : ∀ v : Int, (stA a k v).entries.length = a.entries.length + 1 := fun v => by show (a.entries ++ _).length = _; simp
       have htk : ∀ v : Int, ((stA a k v).entries.map encE).take (a.entries.length + 1) = (stA a k v).entries.map encE := fun v => List.take_of_length_le (by rw [List.length_map, hsl]; exact Nat.le_refl _)
       have hgl : ∀ v : Int, getE (stA a k v).entries a.entries.length = ⟨3, k, 0, 0, v⟩ := fun v => by show (a.entries ++ _).getD _ _ = _; simp
       have hss : ∀ v w : Int, ((stA a k v).entries.map encE).set a.entries.length [iv 3, iv (k : Int), iv 0, iv 0, iv w] = (stA a k w).entries.map encE := fun v w => by
         rw [show [iv 3, iv (k : Int), iv 0, iv 0, iv w] = encE ⟨3, k, 0, 0, w⟩ from rfl, ← List.map_set]
         show ((a.entries ++ _).set _ _).map encE = (a.entries ++ _).map encE
         congr 1; simp
       have hgE : ∀ v : Int, ((stA a k v).entries.map encE).getD a.entries.length [] = [iv 3, iv (k : Int), iv 0, iv 0, iv v] := fun v => by
         rw [encE_getD (by rw [hsl]; omega), hgl]
       have ht0 : (unitsN a d).map encI ++ [[iv 0]] = (unitsN a d ++ [0]).map encI := by rw [List.map_append]; rfl
       have htU : ((unitsN a d ++ [0]).map encI).take (a.entries.length + 1) = (unitsN a d ++ [0]).map encI := List.take_of_length_le (by simp; omega)
       have hlU : (unitsN a d ++ [0]).length = a.entries.length + 1 := by simp; omega
       by_cases hfx : faultS (stA a k ((debtsS a (unitsN a d) []).1.getD k 0)) = 0 <;> by_cases hfy : faultS (stA a k (if (b : Int) % 2 = 1 then (bndR a k (truthsR a)).1 - 1 - (b : Int) else (bndR a k (truthsR a)).2 + 1 + (b : Int))) = 0)
    | (have hp := hwr; have hs1 := hwr; have hs2 := hwr; have hsl := hwr; have htk := hwr; have hgl := hwr; have hss := hwr; have hgE := hwr; have ht0 := hwr; have htU := hwr; have hlU := hwr; have hfx := hwr; have hfy := hwr)
  all_goals
    first
    | have pX := st_play hf (k := k) (by omega) hls hd hfx
    | have pX := hwr
    first
    | (have hy := hfy
       rw [if_pos ho] at hy)
    | (have hy := hfy
       rw [if_neg ho] at hy)
    | have hy := hwr
    first
    | (have bY := bA4 (stA a k ((bndR a k (truthsR a)).1 - 1 - (b : Int)))
       rw [if_pos hy, st_beyond hf (by omega) (by omega) hy (.inl (by rw [Int.toNat_natCast]; omega))] at bY)
    | (have bY := bA4 (stA a k ((bndR a k (truthsR a)).2 + 1 + (b : Int)))
       rw [if_pos hy, st_beyond hf (by omega) (by omega) hy (.inr (by rw [Int.toNat_natCast]; omega))] at bY)
    | have bY := hwr
  all_goals
    refine awp_seq_k fun K1 hK1 => ?_
    refine awp_ops ?_
    simp (disch := omega) only [amL, sA, sB, ↓reduceIte]
    refine hK1 _ ?_
    refine awp_seq_k fun K2 hK2 => ?_
    refine awp_seq_k fun K3 hK3 => ?_
    refine awp_ops ?_
    simp (disch := omega) only [amL, amT, sA, sB, sF, ↓reduceIte]
    repeat' first | (refine EG_dec (fun h => ?_) (fun h => ?_) <;> simp (disch := omega) only [h, pN, bA, hr, hf, hm, hdl, htl, hlen, hd, hp, ho, pX, hfx, hy, bY, hwr, hwr2, hwr3, hmod, encE_all, isl_all, encE_getD, bndE_getD, List.length_range, ne_eq, amL, amT, sA, sB, sC, sD, sE, sF, sG, sH, sI, sJ, sK, sL, sM, sN, sO, ↓reduceIte, reduceCtorEq]) | (refine EG_cases (fun h => ?_) (fun h => ?_) <;> simp (disch := omega) only [h, pN, bA, hr, hf, hm, hdl, htl, hlen, hd, hp, ho, pX, hfx, hy, bY, hwr, hwr2, hwr3, hmod, encE_all, isl_all, encE_getD, bndE_getD, List.length_range, ne_eq, amL, amT, sA, sB, sC, sD, sE, sF, sG, sH, sI, sJ, sK, sL, sM, sN, sO, ↓reduceIte, reduceCtorEq]) | (refine EC_intro (by kernel_rfl) rfl (c46 a) (by first | exact .inl rfl | exact .inr (.inl rfl)) ?_ ; simp (disch := omega) only [hr, hlen, amL, amT, sA, sF, ↓reduceIte, reduceCtorEq])
    all_goals
     skip
     refine hK3 _ ?_
     refine awp_cond rfl (fun h => ?_) (fun h => ?_)
     ·first
      | exact Bool.noConfusion h
      |skip
       try simp only [] at h
       refine awp_seq_k fun K4 hK4 => ?_
       refine awp_ops ?_
       simp (disch := omega) only [amL]
       repeat' first | (refine EC_intro (by kernel_rfl) rfl (c20) (by first | exact .inl rfl | exact .inr (.inl rfl)) ?_ ; simp (disch := omega) only [amL, sA, ↓reduceIte])
       refine hK4 _ ?_
       refine awp_ret ?_
       try simp (disch := omega) only [amL, ↓reduceIte]
       all_goals first | rfl | (omega)
     ·first
      | exact Bool.noConfusion h
      |skip
       try simp only [] at h
       refine awp_skip ?_
       refine hK2 _ ?_
       refine awp_seq_k fun K5 hK5 => ?_
       refine awp_ops ?_
       simp (disch := omega) only [hp, pX, bY, hwr, amL, amT, sA, sB, sF, ↓reduceIte, reduceCtorEq]
       repeat' first | (refine EC_intro (by kernel_rfl) rfl (c47 a d hf ht hin (by omega) (by omega)) (by first | exact .inl rfl | exact .inr (.inl rfl)) ?_ ; simp (disch := omega) only [pN, hd, amL, sA, sF, ↓reduceIte])
       refine hK5 _ ?_
       refine awp_seq_k fun K6 hK6 => ?_
       refine awp_seq_k fun K7 hK7 => ?_
       refine awp_ops ?_
       simp (disch := omega) only [amL, sA, sF, ↓reduceIte]
       repeat' first | (refine EG_dec (fun h => ?_) (fun h => ?_) <;> simp (disch := omega) only [h, pN, bA, hr, hf, hm, hdl, htl, hlen, hd, hp, ho, pX, hfx, hy, bY, hwr, hwr2, hwr3, hmod, encE_all, isl_all, encE_getD, bndE_getD, List.length_range, ne_eq, amL, amT, sA, sB, sC, sD, sE, sF, sG, sH, sI, sJ, sK, sL, sM, sN, sO, ↓reduceIte, reduceCtorEq]) | (refine EG_cases (fun h => ?_) (fun h => ?_) <;> simp (disch := omega) only [h, pN, bA, hr, hf, hm, hdl, htl, hlen, hd, hp, ho, pX, hfx, hy, bY, hwr, hwr2, hwr3, hmod, encE_all, isl_all, encE_getD, bndE_getD, List.length_range, ne_eq, amL, amT, sA, sB, sC, sD, sE, sF, sG, sH, sI, sJ, sK, sL, sM, sN, sO, ↓reduceIte, reduceCtorEq])
       all_goals
        skip
        refine hK7 _ ?_
        refine awp_cond rfl (fun h => ?_) (fun h => ?_)
        ·first
         | exact Bool.noConfusion h
         |skip
          try simp only [] at h
          refine awp_seq_k fun K8 hK8 => ?_
          refine awp_ops ?_
          simp (disch := omega) only [amL, sA, sF, ↓reduceIte]
          repeat' first | (refine EG_dec (fun h => ?_) (fun h => ?_) <;> simp (disch := omega) only [h, pN, bA, hr, hf, hm, hdl, htl, hlen, hd, hp, ho, pX, hfx, hy, bY, hwr, hwr2, hwr3, hmod, encE_all, isl_all, encE_getD, bndE_getD, List.length_range, ne_eq, amL, amT, sA, sB, sC, sD, sE, sF, sG, sH, sI, sJ, sK, sL, sM, sN, sO, ↓reduceIte, reduceCtorEq]) | (refine EG_cases (fun h => ?_) (fun h => ?_) <;> simp (disch := omega) only [h, pN, bA, hr, hf, hm, hdl, htl, hlen, hd, hp, ho, pX, hfx, hy, bY, hwr, hwr2, hwr3, hmod, encE_all, isl_all, encE_getD, bndE_getD, List.length_range, ne_eq, amL, amT, sA, sB, sC, sD, sE, sF, sG, sH, sI, sJ, sK, sL, sM, sN, sO, ↓reduceIte, reduceCtorEq]) | (refine EC_intro (by kernel_rfl) rfl (c20) (by first | exact .inl rfl | exact .inr (.inl rfl)) ?_ ; simp (disch := omega) only [amL, sA, sF, ↓reduceIte])
          all_goals
           skip
           refine hK8 _ ?_
           refine awp_ret ?_
           try simp (disch := omega) only [amL, ↓reduceIte]
           all_goals first | rfl | (omega)
        ·first
         | exact Bool.noConfusion h
         |skip
          try simp only [] at h
          refine awp_skip ?_
          refine hK6 _ ?_
          refine awp_seq_k fun K9 hK9 => ?_
          refine awp_ops ?_
          simp (disch := omega) only [hwr2, hmod, amL, amT, sA, sF, ↓reduceIte, reduceCtorEq]
          refine hK9 _ ?_
          refine awp_seq_k fun K10 hK10 => ?_
          refine awp_ops ?_
          simp (disch := omega) only [amL, amT, sA, sB, sF, ↓reduceIte]
          repeat' first | (refine EF_intro (by kernel_rfl) rfl (by first | exact c22f a (by omega) (by omega) | exact c22f (stA a k ((debtsS a (unitsN a d) []).1.getD k 0)) (Nat.lt_of_le_of_lt hl1 (by decide)) (by rw [hsl]; omega) | exact c22f (stA a k ((bndR a k (truthsR a)).1 - 1 - (b : Int))) (Nat.lt_of_le_of_lt hl1 (by decide)) (by rw [hsl]; omega) | exact c22f (stA a k ((bndR a k (truthsR a)).2 + 1 + (b : Int))) (Nat.lt_of_le_of_lt hl1 (by decide)) (by rw [hsl]; omega)) ?_ ; simp (disch := omega) only [amL, ↓reduceIte]) | (refine EC_intro (by kernel_rfl) rfl (by first | exact c30 a (by omega) (by omega) hin' | exact c30 (stA a k ((bndR a k (truthsR a)).1 - 1 - (b : Int))) (Nat.lt_of_le_of_lt hl1 (by decide)) (by rw [hsl]; omega) (valid_in hy) | exact c30 (stA a k ((bndR a k (truthsR a)).2 + 1 + (b : Int))) (Nat.lt_of_le_of_lt hl1 (by decide)) (by rw [hsl]; omega) (valid_in hy)) (by first | exact .inl rfl | exact .inr (.inl rfl)) ?_ ; simp (disch := omega) only [bA, hf, hp, amL, sA, sF, ↓reduceIte])
          refine hK10 _ ?_
          refine awp_seq_k fun K11 hK11 => ?_
          refine awp_seq_k fun K12 hK12 => ?_
          refine awp_ops ?_
          simp (disch := omega) only [hm, hdl, List.length_range, ne_eq, amL, amT, sA, sF, ↓reduceIte]
          repeat' first | (refine EG_dec (fun h => ?_) (fun h => ?_) <;> simp (disch := omega) only [h, pN, bA, hr, hf, hm, hdl, htl, hlen, hd, hp, ho, pX, hfx, hy, bY, hwr, hwr2, hwr3, hmod, encE_all, isl_all, encE_getD, bndE_getD, List.length_range, ne_eq, amL, amT, sA, sB, sC, sD, sE, sF, sG, sH, sI, sJ, sK, sL, sM, sN, sO, ↓reduceIte, reduceCtorEq]) | (refine EG_cases (fun h => ?_) (fun h => ?_) <;> simp (disch := omega) only [h, pN, bA, hr, hf, hm, hdl, htl, hlen, hd, hp, ho, pX, hfx, hy, bY, hwr, hwr2, hwr3, hmod, encE_all, isl_all, encE_getD, bndE_getD, List.length_range, ne_eq, amL, amT, sA, sB, sC, sD, sE, sF, sG, sH, sI, sJ, sK, sL, sM, sN, sO, ↓reduceIte, reduceCtorEq])
          all_goals
           skip
           refine hK12 _ ?_
           refine awp_cond rfl (fun h => ?_) (fun h => ?_)
           ·first
            | exact Bool.noConfusion h
            |skip
             try simp only [Bool.not_eq_true', decide_eq_true_eq, decide_eq_false_iff_not, Bool.and_eq_true, Bool.not_eq_false', Bool.not_not, decide_not, Bool.not_true, Bool.not_false] at h
             refine awp_seq_k fun K13 hK13 => ?_
             refine awp_ops ?_
             simp (disch := omega) only [pN, bA, hr, hf, hm, hdl, htl, hlen, hd, hp, ho, pX, hfx, hy, bY, hwr, hwr2, hwr3, hmod, encE_all, isl_all, encE_getD, bndE_getD, List.length_range, ne_eq, amL, amT, sA, sB, sC, sD, sE, sF, sG, sH, sI, sJ, sK, sL, sM, sN, sO, ↓reduceIte, reduceCtorEq]
             refine hK13 _ ?_
             refine awp_ret ?_
             try simp (disch := omega) only [pN, bA, hr, hf, hm, hdl, htl, hlen, hd, hp, ho, pX, hfx, hy, bY, hwr, hwr2, hwr3, hmod, encE_all, isl_all, encE_getD, bndE_getD, List.length_range, ne_eq, amL, amT, sA, sB, sC, sD, sE, sF, sG, sH, sI, sJ, sK, sL, sM, sN, sO, ↓reduceIte, reduceCtorEq]
             all_goals first | rfl | (omega)
           ·first
            | exact Bool.noConfusion h
            |skip
             try simp only [] at h
             refine awp_skip ?_
             refine hK11 _ ?_
             refine awp_seq_k fun K14 hK14 => ?_
             refine awp_any3 [.sto [4] 16] (by kernel_rfl) (by kernel_rfl) ?_
             simp (disch := omega) only [amL, amT, sA, sB, sF, ↓reduceIte]
             refine ⟨by simp [Cf.ok, nameOf, T, AV.known, AV.clean], ?_⟩
             all_goals
              skip
              refine hK14 _ ?_
              refine awp_seq_k fun K15 hK15 => ?_
              refine awp_any5' [] [74, 75, 76, 77, 78, 79, 80, 81, 82, 83, 84, 85, 86] (by kernel_rfl) (by kernel_rfl) rfl (by repeat' constructor) ?_
              simp (disch := omega) only [hs1, hm, hdl, encE_all, amL, amT, sA, sB, sC, sE, sF, ↓reduceIte, reduceCtorEq]
              refine hK15 _ ?_
              refine awp_seq_k fun K16 hK16 => ?_
              refine awp_any5' [] [87, 88, 89, 90, 91, 92, 93, 94, 95, 96, 97, 98, 99, 100, 101, 102, 103, 104] (by kernel_rfl) (by kernel_rfl) rfl (by repeat' constructor) ?_
              simp (disch := omega) only [hs2, hm, hwr3, encE_all, bndE_getD, List.length_range, amL, amT, sA, sB, sC, sE, sF, ↓reduceIte, reduceCtorEq]
              refine hK16 _ ?_
              refine awp_seq_k fun K17 hK17 => ?_
              refine awp_seq_k fun K18 hK18 => ?_
              refine awp_ops ?_
              simp (disch := omega) only [ho, amL, amT, sA, sF, sO, ↓reduceIte, reduceCtorEq]
              refine hK18 _ ?_
              refine awp_cond rfl (fun h => ?_) (fun h => ?_)
              ·first
               | exact Bool.noConfusion h
               |skip
                try simp only [] at h
                refine awp_any2 (by kernel_rfl) (by kernel_rfl) ?_
                simp (disch := omega) only [hgE, hss, hsl, hm, hwr3, bndE_getD, List.length_range, amL, amT, sA, sB, sF, ↓reduceIte, reduceCtorEq]
                refine hK17 _ ?_
                refine awp_seq_k fun K19 hK19 => ?_
                refine awp_seq_k fun K20 hK20 => ?_
                refine awp_ops ?_
                simp (disch := omega) only [htk, hsl, amL, amT, sA, sB, sF, ↓reduceIte]
                repeat' first | (refine EC_intro (by kernel_rfl) rfl (by first | exact c24 (stA a k ((debtsS a (unitsN a d) []).1.getD k 0)) (Nat.lt_of_le_of_lt hl1 (by decide)) (by rw [hsl]; omega) | exact c24 (stA a k ((bndR a k (truthsR a)).1 - 1 - (b : Int))) (Nat.lt_of_le_of_lt hl1 (by decide)) (by rw [hsl]; omega) | exact c24 (stA a k ((bndR a k (truthsR a)).2 + 1 + (b : Int))) (Nat.lt_of_le_of_lt hl1 (by decide)) (by rw [hsl]; omega)) (by first | exact .inl rfl | exact .inr (.inl rfl)) ?_ ; simp (disch := omega) only [hfx, amL, amT, sA, ↓reduceIte])
                refine hK20 _ ?_
                refine awp_cond rfl (fun h => ?_) (fun h => ?_)
                ·first
                 | exact Bool.noConfusion h
                 |skip
                  try simp only [] at h
                  refine awp_seq_k fun K21 hK21 => ?_
                  refine awp_ops ?_
                  simp (disch := omega) only [htk, hsl, amL, amT, sA, sB, sF, ↓reduceIte]
                  repeat' first | (refine EF_intro (by kernel_rfl) rfl (by first | exact c22f a (by omega) (by omega) | exact c22f (stA a k ((debtsS a (unitsN a d) []).1.getD k 0)) (Nat.lt_of_le_of_lt hl1 (by decide)) (by rw [hsl]; omega) | exact c22f (stA a k ((bndR a k (truthsR a)).1 - 1 - (b : Int))) (Nat.lt_of_le_of_lt hl1 (by decide)) (by rw [hsl]; omega) | exact c22f (stA a k ((bndR a k (truthsR a)).2 + 1 + (b : Int))) (Nat.lt_of_le_of_lt hl1 (by decide)) (by rw [hsl]; omega)) ?_ ; simp (disch := omega) only [amL, sA, sF, ↓reduceIte]) | (refine EN_intro (by kernel_rfl) (by decide) (n23 (unitsN a d) (by omega)) (by simp (disch := omega) only [amL, sF, ↓reduceIte]) ?_ ; simp (disch := omega) only [ht0, htU, hlU, htl, amL, amT, sA, sE, sF, ↓reduceIte, reduceCtorEq]) | (refine EF_intro (by kernel_rfl) rfl (c21f (stA a k ((debtsS a (unitsN a d) []).1.getD k 0)) (unitsN a d ++ [0]) (Nat.lt_of_le_of_lt hl1 (by decide)) (by rw [hsl]; omega) (by omega) (valid_in hfx)) ?_ ; simp (disch := omega) only [pX, amL, sA, sF, ↓reduceIte])
                  refine hK21 _ ?_
                  refine awp_seq_k fun K22 hK22 => ?_
                  refine awp_ops ?_
                  simp (disch := omega) only [ne_eq, amL, amT, sA, sF, ↓reduceIte]
                  repeat' first | (refine EG_dec (fun h => ?_) (fun h => ?_) <;> simp (disch := omega) only [h, pN, bA, hr, hf, hm, hdl, htl, hlen, hd, hp, ho, pX, hfx, hy, bY, hwr, hwr2, hwr3, hmod, encE_all, isl_all, encE_getD, bndE_getD, List.length_range, ne_eq, amL, amT, sA, sB, sC, sD, sE, sF, sG, sH, sI, sJ, sK, sL, sM, sN, sO, ↓reduceIte, reduceCtorEq]) | (refine EG_cases (fun h => ?_) (fun h => ?_) <;> simp (disch := omega) only [h, pN, bA, hr, hf, hm, hdl, htl, hlen, hd, hp, ho, pX, hfx, hy, bY, hwr, hwr2, hwr3, hmod, encE_all, isl_all, encE_getD, bndE_getD, List.length_range, ne_eq, amL, amT, sA, sB, sC, sD, sE, sF, sG, sH, sI, sJ, sK, sL, sM, sN, sO, ↓reduceIte, reduceCtorEq]) | (refine EC_intro (by kernel_rfl) rfl (c28s _ (by omega)) (by first | exact .inl rfl | exact .inr (.inl rfl)) ?_ ; simp (disch := omega) only [amL, sA, sF, ↓reduceIte])
                  all_goals
                   skip
                   refine hK22 _ ?_
                   refine awp_cond rfl (fun h => ?_) (fun h => ?_)
                   ·first
                    | exact Bool.noConfusion h
                    |skip
                     try simp only [Bool.not_eq_true', decide_eq_true_eq, decide_eq_false_iff_not, Bool.and_eq_true, Bool.not_eq_false', Bool.not_not, decide_not, Bool.not_true, Bool.not_false] at h
                     refine awp_seq_k fun K23 hK23 => ?_
                     refine awp_ops ?_
                     simp (disch := omega) only [pN, bA, hr, hf, hm, hdl, htl, hlen, hd, hp, ho, pX, hfx, hy, bY, hwr, hwr2, hwr3, hmod, encE_all, isl_all, encE_getD, bndE_getD, List.length_range, ne_eq, amL, amT, sA, sB, sC, sD, sE, sF, sG, sH, sI, sJ, sK, sL, sM, sN, sO, ↓reduceIte, reduceCtorEq]
                     refine hK23 _ ?_
                     refine awp_ret ?_
                     try simp (disch := omega) only [pN, bA, hr, hf, hm, hdl, htl, hlen, hd, hp, ho, pX, hfx, hy, bY, hwr, hwr2, hwr3, hmod, encE_all, isl_all, encE_getD, bndE_getD, List.length_range, ne_eq, amL, amT, sA, sB, sC, sD, sE, sF, sG, sH, sI, sJ, sK, sL, sM, sN, sO, ↓reduceIte, reduceCtorEq]
                     all_goals first | rfl | (omega)
                   ·first
                    | exact Bool.noConfusion h
                    |skip
                     try simp only [] at h
                     refine awp_skip ?_
                     refine hK19 _ ?_
                     refine awp_seq_k fun K24 hK24 => ?_
                     refine awp_seq_k fun K25 hK25 => ?_
                     refine awp_ops ?_
                     simp (disch := omega) only [htk, hsl, amL, amT, sA, sB, sF, ↓reduceIte]
                     repeat' first | (refine EC_intro (by kernel_rfl) rfl (by first | exact c24 (stA a k ((debtsS a (unitsN a d) []).1.getD k 0)) (Nat.lt_of_le_of_lt hl1 (by decide)) (by rw [hsl]; omega) | exact c24 (stA a k ((bndR a k (truthsR a)).1 - 1 - (b : Int))) (Nat.lt_of_le_of_lt hl1 (by decide)) (by rw [hsl]; omega) | exact c24 (stA a k ((bndR a k (truthsR a)).2 + 1 + (b : Int))) (Nat.lt_of_le_of_lt hl1 (by decide)) (by rw [hsl]; omega)) (by first | exact .inl rfl | exact .inr (.inl rfl)) ?_ ; simp (disch := omega) only [hy, amL, amT, sA, ↓reduceIte])
                     refine hK25 _ ?_
                     refine awp_cond rfl (fun h => ?_) (fun h => ?_)
                     ·first
                      | exact Bool.noConfusion h
                      |skip
                       try simp only [] at h
                       refine awp_seq_k fun K26 hK26 => ?_
                       refine awp_ops ?_
                       simp (disch := omega) only [htk, hsl, amL, amT, sA, sB, sF, ↓reduceIte]
                       repeat' first | (refine EF_intro (by kernel_rfl) rfl (by first | exact c22f a (by omega) (by omega) | exact c22f (stA a k ((debtsS a (unitsN a d) []).1.getD k 0)) (Nat.lt_of_le_of_lt hl1 (by decide)) (by rw [hsl]; omega) | exact c22f (stA a k ((bndR a k (truthsR a)).1 - 1 - (b : Int))) (Nat.lt_of_le_of_lt hl1 (by decide)) (by rw [hsl]; omega) | exact c22f (stA a k ((bndR a k (truthsR a)).2 + 1 + (b : Int))) (Nat.lt_of_le_of_lt hl1 (by decide)) (by rw [hsl]; omega)) ?_ ; simp (disch := omega) only [amL, ↓reduceIte]) | (refine EC_intro (by kernel_rfl) rfl (by first | exact c30 a (by omega) (by omega) hin' | exact c30 (stA a k ((bndR a k (truthsR a)).1 - 1 - (b : Int))) (Nat.lt_of_le_of_lt hl1 (by decide)) (by rw [hsl]; omega) (valid_in hy) | exact c30 (stA a k ((bndR a k (truthsR a)).2 + 1 + (b : Int))) (Nat.lt_of_le_of_lt hl1 (by decide)) (by rw [hsl]; omega) (valid_in hy)) (by first | exact .inl rfl | exact .inr (.inl rfl)) ?_ ; simp (disch := omega) only [bY, amL, sA, sF, ↓reduceIte])
                       refine hK26 _ ?_
                       refine awp_seq_k fun K27 hK27 => ?_
                       refine awp_ops ?_
                       simp (disch := omega) only [ne_eq, amL, amT, sA, ↓reduceIte]
                       refine hK27 _ ?_
                       refine awp_cond rfl (fun h => ?_) (fun h => ?_)
                       ·first
                        | exact Bool.noConfusion h
                        |skip
                         try simp only [Bool.not_eq_true', decide_eq_true_eq, decide_eq_false_iff_not, Bool.and_eq_true, Bool.not_eq_false', Bool.not_not, decide_not, Bool.not_true, Bool.not_false] at h
                         refine awp_seq_k fun K28 hK28 => ?_
                         refine awp_ops ?_
                         simp (disch := omega) only [pN, bA, hr, hf, hm, hdl, htl, hlen, hd, hp, ho, pX, hfx, hy, bY, hwr, hwr2, hwr3, hmod, encE_all, isl_all, encE_getD, bndE_getD, List.length_range, ne_eq, amL, amT, sA, sB, sC, sD, sE, sF, sG, sH, sI, sJ, sK, sL, sM, sN, sO, ↓reduceIte, reduceCtorEq]
                         refine hK28 _ ?_
                         refine awp_ret ?_
                         try simp (disch := omega) only [pN, bA, hr, hf, hm, hdl, htl, hlen, hd, hp, ho, pX, hfx, hy, bY, hwr, hwr2, hwr3, hmod, encE_all, isl_all, encE_getD, bndE_getD, List.length_range, ne_eq, amL, amT, sA, sB, sC, sD, sE, sF, sG, sH, sI, sJ, sK, sL, sM, sN, sO, ↓reduceIte, reduceCtorEq]
                         all_goals first | rfl | (omega)
                       ·first
                        | exact Bool.noConfusion h
                        |skip
                         try simp only [] at h
                         refine awp_skip ?_
                         refine hK24 _ ?_
                         refine awp_seq_k fun K29 hK29 => ?_
                         refine awp_ops ?_
                         simp (disch := omega) only [amL]
                         repeat' first | (refine EC_intro (by kernel_rfl) rfl (c20) (by first | exact .inl rfl | exact .inr (.inl rfl)) ?_ ; simp (disch := omega) only [amL, sA, ↓reduceIte])
                         refine hK29 _ ?_
                         refine awp_ret ?_
                         try simp (disch := omega) only [amL, ↓reduceIte]
                         all_goals first | rfl | (omega)
                     ·first
                      | exact Bool.noConfusion h
                      |skip
                       try simp only [] at h
                       refine awp_skip ?_
                       refine hK24 _ ?_
                       refine awp_seq_k fun K30 hK30 => ?_
                       refine awp_ops ?_
                       simp (disch := omega) only [amL]
                       repeat' first | (refine EC_intro (by kernel_rfl) rfl (c20) (by first | exact .inl rfl | exact .inr (.inl rfl)) ?_ ; simp (disch := omega) only [amL, sA, ↓reduceIte])
                       refine hK30 _ ?_
                       refine awp_ret ?_
                       try simp (disch := omega) only [amL, ↓reduceIte]
                       all_goals first | rfl | (omega)
                ·first
                 | exact Bool.noConfusion h
                 |skip
                  try simp only [] at h
                  refine awp_skip ?_
                  refine hK19 _ ?_
                  refine awp_seq_k fun K31 hK31 => ?_
                  refine awp_seq_k fun K32 hK32 => ?_
                  refine awp_ops ?_
                  simp (disch := omega) only [htk, hsl, amL, amT, sA, sB, sF, ↓reduceIte]
                  repeat' first | (refine EC_intro (by kernel_rfl) rfl (by first | exact c24 (stA a k ((debtsS a (unitsN a d) []).1.getD k 0)) (Nat.lt_of_le_of_lt hl1 (by decide)) (by rw [hsl]; omega) | exact c24 (stA a k ((bndR a k (truthsR a)).1 - 1 - (b : Int))) (Nat.lt_of_le_of_lt hl1 (by decide)) (by rw [hsl]; omega) | exact c24 (stA a k ((bndR a k (truthsR a)).2 + 1 + (b : Int))) (Nat.lt_of_le_of_lt hl1 (by decide)) (by rw [hsl]; omega)) (by first | exact .inl rfl | exact .inr (.inl rfl)) ?_ ; simp (disch := omega) only [hy, amL, amT, sA, ↓reduceIte])
                  refine hK32 _ ?_
                  refine awp_cond rfl (fun h => ?_) (fun h => ?_)
                  ·first
                   | exact Bool.noConfusion h
                   |skip
                    try simp only [] at h
                    refine awp_seq_k fun K33 hK33 => ?_
                    refine awp_ops ?_
                    simp (disch := omega) only [htk, hsl, amL, amT, sA, sB, sF, ↓reduceIte]
                    repeat' first | (refine EF_intro (by kernel_rfl) rfl (by first | exact c22f a (by omega) (by omega) | exact c22f (stA a k ((debtsS a (unitsN a d) []).1.getD k 0)) (Nat.lt_of_le_of_lt hl1 (by decide)) (by rw [hsl]; omega) | exact c22f (stA a k ((bndR a k (truthsR a)).1 - 1 - (b : Int))) (Nat.lt_of_le_of_lt hl1 (by decide)) (by rw [hsl]; omega) | exact c22f (stA a k ((bndR a k (truthsR a)).2 + 1 + (b : Int))) (Nat.lt_of_le_of_lt hl1 (by decide)) (by rw [hsl]; omega)) ?_ ; simp (disch := omega) only [amL, ↓reduceIte]) | (refine EC_intro (by kernel_rfl) rfl (by first | exact c30 a (by omega) (by omega) hin' | exact c30 (stA a k ((bndR a k (truthsR a)).1 - 1 - (b : Int))) (Nat.lt_of_le_of_lt hl1 (by decide)) (by rw [hsl]; omega) (valid_in hy) | exact c30 (stA a k ((bndR a k (truthsR a)).2 + 1 + (b : Int))) (Nat.lt_of_le_of_lt hl1 (by decide)) (by rw [hsl]; omega) (valid_in hy)) (by first | exact .inl rfl | exact .inr (.inl rfl)) ?_ ; simp (disch := omega) only [bY, amL, sA, sF, ↓reduceIte])
                    refine hK33 _ ?_
                    refine awp_seq_k fun K34 hK34 => ?_
                    refine awp_ops ?_
                    simp (disch := omega) only [ne_eq, amL, amT, sA, ↓reduceIte]
                    refine hK34 _ ?_
                    refine awp_cond rfl (fun h => ?_) (fun h => ?_)
                    ·first
                     | exact Bool.noConfusion h
                     |skip
                      try simp only [Bool.not_eq_true', decide_eq_true_eq, decide_eq_false_iff_not, Bool.and_eq_true, Bool.not_eq_false', Bool.not_not, decide_not, Bool.not_true, Bool.not_false] at h
                      refine awp_seq_k fun K35 hK35 => ?_
                      refine awp_ops ?_
                      simp (disch := omega) only [pN, bA, hr, hf, hm, hdl, htl, hlen, hd, hp, ho, pX, hfx, hy, bY, hwr, hwr2, hwr3, hmod, encE_all, isl_all, encE_getD, bndE_getD, List.length_range, ne_eq, amL, amT, sA, sB, sC, sD, sE, sF, sG, sH, sI, sJ, sK, sL, sM, sN, sO, ↓reduceIte, reduceCtorEq]
                      refine hK35 _ ?_
                      refine awp_ret ?_
                      try simp (disch := omega) only [pN, bA, hr, hf, hm, hdl, htl, hlen, hd, hp, ho, pX, hfx, hy, bY, hwr, hwr2, hwr3, hmod, encE_all, isl_all, encE_getD, bndE_getD, List.length_range, ne_eq, amL, amT, sA, sB, sC, sD, sE, sF, sG, sH, sI, sJ, sK, sL, sM, sN, sO, ↓reduceIte, reduceCtorEq]
                      all_goals first | rfl | (omega)
                    ·first
                     | exact Bool.noConfusion h
                     |skip
                      try simp only [] at h
                      refine awp_skip ?_
                      refine hK31 _ ?_
                      refine awp_seq_k fun K36 hK36 => ?_
                      refine awp_ops ?_
                      simp (disch := omega) only [amL]
                      repeat' first | (refine EC_intro (by kernel_rfl) rfl (c20) (by first | exact .inl rfl | exact .inr (.inl rfl)) ?_ ; simp (disch := omega) only [amL, sA, ↓reduceIte])
                      refine hK36 _ ?_
                      refine awp_ret ?_
                      try simp (disch := omega) only [amL, ↓reduceIte]
                      all_goals first | rfl | (omega)
                  ·first
                   | exact Bool.noConfusion h
                   |skip
                    try simp only [] at h
                    refine awp_skip ?_
                    refine hK31 _ ?_
                    refine awp_seq_k fun K37 hK37 => ?_
                    refine awp_ops ?_
                    simp (disch := omega) only [amL]
                    repeat' first | (refine EC_intro (by kernel_rfl) rfl (c20) (by first | exact .inl rfl | exact .inr (.inl rfl)) ?_ ; simp (disch := omega) only [amL, sA, ↓reduceIte])
                    refine hK37 _ ?_
                    refine awp_ret ?_
                    try simp (disch := omega) only [amL, ↓reduceIte]
                    all_goals first | rfl | (omega)
              ·first
               | exact Bool.noConfusion h
               |skip
                try simp only [] at h
                refine awp_skip ?_
                refine hK17 _ ?_
                refine awp_seq_k fun K38 hK38 => ?_
                refine awp_seq_k fun K39 hK39 => ?_
                refine awp_ops ?_
                simp (disch := omega) only [htk, hsl, amL, amT, sA, sB, sF, ↓reduceIte]
                repeat' first | (refine EC_intro (by kernel_rfl) rfl (by first | exact c24 (stA a k ((debtsS a (unitsN a d) []).1.getD k 0)) (Nat.lt_of_le_of_lt hl1 (by decide)) (by rw [hsl]; omega) | exact c24 (stA a k ((bndR a k (truthsR a)).1 - 1 - (b : Int))) (Nat.lt_of_le_of_lt hl1 (by decide)) (by rw [hsl]; omega) | exact c24 (stA a k ((bndR a k (truthsR a)).2 + 1 + (b : Int))) (Nat.lt_of_le_of_lt hl1 (by decide)) (by rw [hsl]; omega)) (by first | exact .inl rfl | exact .inr (.inl rfl)) ?_ ; simp (disch := omega) only [hfx, amL, amT, sA, ↓reduceIte])
                refine hK39 _ ?_
                refine awp_cond rfl (fun h => ?_) (fun h => ?_)
                ·first
                 | exact Bool.noConfusion h
                 |skip
                  try simp only [] at h
                  refine awp_seq_k fun K40 hK40 => ?_
                  refine awp_ops ?_
                  simp (disch := omega) only [htk, hsl, amL, amT, sA, sB, sF, ↓reduceIte]
                  repeat' first | (refine EF_intro (by kernel_rfl) rfl (by first | exact c22f a (by omega) (by omega) | exact c22f (stA a k ((debtsS a (unitsN a d) []).1.getD k 0)) (Nat.lt_of_le_of_lt hl1 (by decide)) (by rw [hsl]; omega) | exact c22f (stA a k ((bndR a k (truthsR a)).1 - 1 - (b : Int))) (Nat.lt_of_le_of_lt hl1 (by decide)) (by rw [hsl]; omega) | exact c22f (stA a k ((bndR a k (truthsR a)).2 + 1 + (b : Int))) (Nat.lt_of_le_of_lt hl1 (by decide)) (by rw [hsl]; omega)) ?_ ; simp (disch := omega) only [amL, sA, sF, ↓reduceIte]) | (refine EN_intro (by kernel_rfl) (by decide) (n23 (unitsN a d) (by omega)) (by simp (disch := omega) only [amL, sF, ↓reduceIte]) ?_ ; simp (disch := omega) only [ht0, htU, hlU, htl, amL, amT, sA, sE, sF, ↓reduceIte, reduceCtorEq]) | (refine EF_intro (by kernel_rfl) rfl (c21f (stA a k ((debtsS a (unitsN a d) []).1.getD k 0)) (unitsN a d ++ [0]) (Nat.lt_of_le_of_lt hl1 (by decide)) (by rw [hsl]; omega) (by omega) (valid_in hfx)) ?_ ; simp (disch := omega) only [pX, amL, sA, sF, ↓reduceIte])
                  refine hK40 _ ?_
                  refine awp_seq_k fun K41 hK41 => ?_
                  refine awp_ops ?_
                  simp (disch := omega) only [ne_eq, amL, amT, sA, sF, ↓reduceIte]
                  repeat' first | (refine EG_dec (fun h => ?_) (fun h => ?_) <;> simp (disch := omega) only [h, pN, bA, hr, hf, hm, hdl, htl, hlen, hd, hp, ho, pX, hfx, hy, bY, hwr, hwr2, hwr3, hmod, encE_all, isl_all, encE_getD, bndE_getD, List.length_range, ne_eq, amL, amT, sA, sB, sC, sD, sE, sF, sG, sH, sI, sJ, sK, sL, sM, sN, sO, ↓reduceIte, reduceCtorEq]) | (refine EG_cases (fun h => ?_) (fun h => ?_) <;> simp (disch := omega) only [h, pN, bA, hr, hf, hm, hdl, htl, hlen, hd, hp, ho, pX, hfx, hy, bY, hwr, hwr2, hwr3, hmod, encE_all, isl_all, encE_getD, bndE_getD, List.length_range, ne_eq, amL, amT, sA, sB, sC, sD, sE, sF, sG, sH, sI, sJ, sK, sL, sM, sN, sO, ↓reduceIte, reduceCtorEq]) | (refine EC_intro (by kernel_rfl) rfl (c28s _ (by omega)) (by first | exact .inl rfl | exact .inr (.inl rfl)) ?_ ; simp (disch := omega) only [amL, sA, sF, ↓reduceIte])
                  all_goals
                   skip
                   refine hK41 _ ?_
                   refine awp_cond rfl (fun h => ?_) (fun h => ?_)
                   ·first
                    | exact Bool.noConfusion h
                    |skip
                     try simp only [Bool.not_eq_true', decide_eq_true_eq, decide_eq_false_iff_not, Bool.and_eq_true, Bool.not_eq_false', Bool.not_not, decide_not, Bool.not_true, Bool.not_false] at h
                     refine awp_seq_k fun K42 hK42 => ?_
                     refine awp_ops ?_
                     simp (disch := omega) only [pN, bA, hr, hf, hm, hdl, htl, hlen, hd, hp, ho, pX, hfx, hy, bY, hwr, hwr2, hwr3, hmod, encE_all, isl_all, encE_getD, bndE_getD, List.length_range, ne_eq, amL, amT, sA, sB, sC, sD, sE, sF, sG, sH, sI, sJ, sK, sL, sM, sN, sO, ↓reduceIte, reduceCtorEq]
                     refine hK42 _ ?_
                     refine awp_ret ?_
                     try simp (disch := omega) only [pN, bA, hr, hf, hm, hdl, htl, hlen, hd, hp, ho, pX, hfx, hy, bY, hwr, hwr2, hwr3, hmod, encE_all, isl_all, encE_getD, bndE_getD, List.length_range, ne_eq, amL, amT, sA, sB, sC, sD, sE, sF, sG, sH, sI, sJ, sK, sL, sM, sN, sO, ↓reduceIte, reduceCtorEq]
                     all_goals first | rfl | (omega)
                   ·first
                    | exact Bool.noConfusion h
                    |skip
                     try simp only [] at h
                     refine awp_skip ?_
                     refine hK38 _ ?_
                     refine awp_seq_k fun K43 hK43 => ?_
                     refine awp_seq_k fun K44 hK44 => ?_
                     refine awp_ops ?_
                     simp (disch := omega) only [htk, hsl, amL, amT, sA, sB, sF, ↓reduceIte]
                     repeat' first | (refine EC_intro (by kernel_rfl) rfl (by first | exact c24 (stA a k ((debtsS a (unitsN a d) []).1.getD k 0)) (Nat.lt_of_le_of_lt hl1 (by decide)) (by rw [hsl]; omega) | exact c24 (stA a k ((bndR a k (truthsR a)).1 - 1 - (b : Int))) (Nat.lt_of_le_of_lt hl1 (by decide)) (by rw [hsl]; omega) | exact c24 (stA a k ((bndR a k (truthsR a)).2 + 1 + (b : Int))) (Nat.lt_of_le_of_lt hl1 (by decide)) (by rw [hsl]; omega)) (by first | exact .inl rfl | exact .inr (.inl rfl)) ?_ ; simp (disch := omega) only [hy, amL, amT, sA, ↓reduceIte])
                     refine hK44 _ ?_
                     refine awp_cond rfl (fun h => ?_) (fun h => ?_)
                     ·first
                      | exact Bool.noConfusion h
                      |skip
                       try simp only [] at h
                       refine awp_seq_k fun K45 hK45 => ?_
                       refine awp_ops ?_
                       simp (disch := omega) only [htk, hsl, amL, amT, sA, sB, sF, ↓reduceIte]
                       repeat' first | (refine EF_intro (by kernel_rfl) rfl (by first | exact c22f a (by omega) (by omega) | exact c22f (stA a k ((debtsS a (unitsN a d) []).1.getD k 0)) (Nat.lt_of_le_of_lt hl1 (by decide)) (by rw [hsl]; omega) | exact c22f (stA a k ((bndR a k (truthsR a)).1 - 1 - (b : Int))) (Nat.lt_of_le_of_lt hl1 (by decide)) (by rw [hsl]; omega) | exact c22f (stA a k ((bndR a k (truthsR a)).2 + 1 + (b : Int))) (Nat.lt_of_le_of_lt hl1 (by decide)) (by rw [hsl]; omega)) ?_ ; simp (disch := omega) only [amL, ↓reduceIte]) | (refine EC_intro (by kernel_rfl) rfl (by first | exact c30 a (by omega) (by omega) hin' | exact c30 (stA a k ((bndR a k (truthsR a)).1 - 1 - (b : Int))) (Nat.lt_of_le_of_lt hl1 (by decide)) (by rw [hsl]; omega) (valid_in hy) | exact c30 (stA a k ((bndR a k (truthsR a)).2 + 1 + (b : Int))) (Nat.lt_of_le_of_lt hl1 (by decide)) (by rw [hsl]; omega) (valid_in hy)) (by first | exact .inl rfl | exact .inr (.inl rfl)) ?_ ; simp (disch := omega) only [bY, amL, sA, sF, ↓reduceIte])
                       refine hK45 _ ?_
                       refine awp_seq_k fun K46 hK46 => ?_
                       refine awp_ops ?_
                       simp (disch := omega) only [ne_eq, amL, amT, sA, ↓reduceIte]
                       refine hK46 _ ?_
                       refine awp_cond rfl (fun h => ?_) (fun h => ?_)
                       ·first
                        | exact Bool.noConfusion h
                        |skip
                         try simp only [Bool.not_eq_true', decide_eq_true_eq, decide_eq_false_iff_not, Bool.and_eq_true, Bool.not_eq_false', Bool.not_not, decide_not, Bool.not_true, Bool.not_false] at h
                         refine awp_seq_k fun K47 hK47 => ?_
                         refine awp_ops ?_
                         simp (disch := omega) only [pN, bA, hr, hf, hm, hdl, htl, hlen, hd, hp, ho, pX, hfx, hy, bY, hwr, hwr2, hwr3, hmod, encE_all, isl_all, encE_getD, bndE_getD, List.length_range, ne_eq, amL, amT, sA, sB, sC, sD, sE, sF, sG, sH, sI, sJ, sK, sL, sM, sN, sO, ↓reduceIte, reduceCtorEq]
                         refine hK47 _ ?_
                         refine awp_ret ?_
                         try simp (disch := omega) only [pN, bA, hr, hf, hm, hdl, htl, hlen, hd, hp, ho, pX, hfx, hy, bY, hwr, hwr2, hwr3, hmod, encE_all, isl_all, encE_getD, bndE_getD, List.length_range, ne_eq, amL, amT, sA, sB, sC, sD, sE, sF, sG, sH, sI, sJ, sK, sL, sM, sN, sO, ↓reduceIte, reduceCtorEq]
                         all_goals first | rfl | (omega)
                       ·first
                        | exact Bool.noConfusion h
                        |skip
                         try simp only [] at h
                         refine awp_skip ?_
                         refine hK43 _ ?_
                         refine awp_seq_k fun K48 hK48 => ?_
                         refine awp_ops ?_
                         simp (disch := omega) only [amL]
                         repeat' first | (refine EC_intro (by kernel_rfl) rfl (c20) (by first | exact .inl rfl | exact .inr (.inl rfl)) ?_ ; simp (disch := omega) only [amL, sA, ↓reduceIte])
                         refine hK48 _ ?_
                         refine awp_ret ?_
                         try simp (disch := omega) only [amL, ↓reduceIte]
                         all_goals first | rfl | (omega)
                     ·first
                      | exact Bool.noConfusion h
                      |skip
                       try simp only [] at h
                       refine awp_skip ?_
                       refine hK43 _ ?_
                       refine awp_seq_k fun K49 hK49 => ?_
                       refine awp_ops ?_
                       simp (disch := omega) only [amL]
                       repeat' first | (refine EC_intro (by kernel_rfl) rfl (c20) (by first | exact .inl rfl | exact .inr (.inl rfl)) ?_ ; simp (disch := omega) only [amL, sA, ↓reduceIte])
                       refine hK49 _ ?_
                       refine awp_ret ?_
                       try simp (disch := omega) only [amL, ↓reduceIte]
                       all_goals first | rfl | (omega)
                ·first
                 | exact Bool.noConfusion h
                 |skip
                  try simp only [] at h
                  refine awp_skip ?_
                  refine hK38 _ ?_
                  refine awp_seq_k fun K50 hK50 => ?_
                  refine awp_seq_k fun K51 hK51 => ?_
                  refine awp_ops ?_
                  simp (disch := omega) only [htk, hsl, amL, amT, sA, sB, sF, ↓reduceIte]
                  repeat' first | (refine EC_intro (by kernel_rfl) rfl (by first | exact c24 (stA a k ((debtsS a (unitsN a d) []).1.getD k 0)) (Nat.lt_of_le_of_lt hl1 (by decide)) (by rw [hsl]; omega) | exact c24 (stA a k ((bndR a k (truthsR a)).1 - 1 - (b : Int))) (Nat.lt_of_le_of_lt hl1 (by decide)) (by rw [hsl]; omega) | exact c24 (stA a k ((bndR a k (truthsR a)).2 + 1 + (b : Int))) (Nat.lt_of_le_of_lt hl1 (by decide)) (by rw [hsl]; omega)) (by first | exact .inl rfl | exact .inr (.inl rfl)) ?_ ; simp (disch := omega) only [hy, amL, amT, sA, ↓reduceIte])
                  refine hK51 _ ?_
                  refine awp_cond rfl (fun h => ?_) (fun h => ?_)
                  ·first
                   | exact Bool.noConfusion h
                   |skip
                    try simp only [] at h
                    refine awp_seq_k fun K52 hK52 => ?_
                    refine awp_ops ?_
                    simp (disch := omega) only [htk, hsl, amL, amT, sA, sB, sF, ↓reduceIte]
                    repeat' first | (refine EF_intro (by kernel_rfl) rfl (by first | exact c22f a (by omega) (by omega) | exact c22f (stA a k ((debtsS a (unitsN a d) []).1.getD k 0)) (Nat.lt_of_le_of_lt hl1 (by decide)) (by rw [hsl]; omega) | exact c22f (stA a k ((bndR a k (truthsR a)).1 - 1 - (b : Int))) (Nat.lt_of_le_of_lt hl1 (by decide)) (by rw [hsl]; omega) | exact c22f (stA a k ((bndR a k (truthsR a)).2 + 1 + (b : Int))) (Nat.lt_of_le_of_lt hl1 (by decide)) (by rw [hsl]; omega)) ?_ ; simp (disch := omega) only [amL, ↓reduceIte]) | (refine EC_intro (by kernel_rfl) rfl (by first | exact c30 a (by omega) (by omega) hin' | exact c30 (stA a k ((bndR a k (truthsR a)).1 - 1 - (b : Int))) (Nat.lt_of_le_of_lt hl1 (by decide)) (by rw [hsl]; omega) (valid_in hy) | exact c30 (stA a k ((bndR a k (truthsR a)).2 + 1 + (b : Int))) (Nat.lt_of_le_of_lt hl1 (by decide)) (by rw [hsl]; omega) (valid_in hy)) (by first | exact .inl rfl | exact .inr (.inl rfl)) ?_ ; simp (disch := omega) only [bY, amL, sA, sF, ↓reduceIte])
                    refine hK52 _ ?_
                    refine awp_seq_k fun K53 hK53 => ?_
                    refine awp_ops ?_
                    simp (disch := omega) only [ne_eq, amL, amT, sA, ↓reduceIte]
                    refine hK53 _ ?_
                    refine awp_cond rfl (fun h => ?_) (fun h => ?_)
                    ·first
                     | exact Bool.noConfusion h
                     |skip
                      try simp only [Bool.not_eq_true', decide_eq_true_eq, decide_eq_false_iff_not, Bool.and_eq_true, Bool.not_eq_false', Bool.not_not, decide_not, Bool.not_true, Bool.not_false] at h
                      refine awp_seq_k fun K54 hK54 => ?_
                      refine awp_ops ?_
                      simp (disch := omega) only [pN, bA, hr, hf, hm, hdl, htl, hlen, hd, hp, ho, pX, hfx, hy, bY, hwr, hwr2, hwr3, hmod, encE_all, isl_all, encE_getD, bndE_getD, List.length_range, ne_eq, amL, amT, sA, sB, sC, sD, sE, sF, sG, sH, sI, sJ, sK, sL, sM, sN, sO, ↓reduceIte, reduceCtorEq]
                      refine hK54 _ ?_
                      refine awp_ret ?_
                      try simp (disch := omega) only [pN, bA, hr, hf, hm, hdl, htl, hlen, hd, hp, ho, pX, hfx, hy, bY, hwr, hwr2, hwr3, hmod, encE_all, isl_all, encE_getD, bndE_getD, List.length_range, ne_eq, amL, amT, sA, sB, sC, sD, sE, sF, sG, sH, sI, sJ, sK, sL, sM, sN, sO, ↓reduceIte, reduceCtorEq]
                      all_goals first | rfl | (omega)
                    ·first
                     | exact Bool.noConfusion h
                     |skip
                      try simp only [] at h
                      refine awp_skip ?_
                      refine hK50 _ ?_
                      refine awp_seq_k fun K55 hK55 => ?_
                      refine awp_ops ?_
                      simp (disch := omega) only [amL]
                      repeat' first | (refine EC_intro (by kernel_rfl) rfl (c20) (by first | exact .inl rfl | exact .inr (.inl rfl)) ?_ ; simp (disch := omega) only [amL, sA, ↓reduceIte])
                      refine hK55 _ ?_
                      refine awp_ret ?_
                      try simp (disch := omega) only [amL, ↓reduceIte]
                      all_goals first | rfl | (omega)
                  ·first
                   | exact Bool.noConfusion h
                   |skip
                    try simp only [] at h
                    refine awp_skip ?_
                    refine hK50 _ ?_
                    refine awp_seq_k fun K56 hK56 => ?_
                    refine awp_ops ?_
                    simp (disch := omega) only [amL]
                    repeat' first | (refine EC_intro (by kernel_rfl) rfl (c20) (by first | exact .inl rfl | exact .inr (.inl rfl)) ?_ ; simp (disch := omega) only [amL, sA, ↓reduceIte])
                    refine hK56 _ ?_
                    refine awp_ret ?_
                    try simp (disch := omega) only [amL, ↓reduceIte]
                    all_goals first | rfl | (omega)
end AM.Try
end
