/- Lemmas for the proof: more of the program's functions, walked on the abstract machine. -/
import Derived.Test.YtkmgffkfbocebaaP5
import Derived.Test.YtkmgffkfbocebaaRows
import Derived.ProofKit
import Derived.Deep.Slices
import Derived.ChangeStays
/- The reference: truths. -/
section
namespace AM.Try
open Go AM AM.Duty
open Nat renaming reduceLT → sA, reduceAdd → sB, reduceMul → sC, reduceSub → sD, reduceLeDiff → sE, reduceEqDiff → sF, reduceBEq → sG
open Int renaming reduceAdd → sH, reduceSub → sI, reduceMul → sJ, reduceLT → sK, reduceLE → sL, reduceNeg → sM, reduceToNat → sN, reduceEq → sO
set_option maxHeartbeats 4000000
def isTruth (a : Acc) (t : List Int) : Bool := (debtsS a t []).2
theorem valid_small {a : Acc} (h : faultS a = 0) : smallE a.entries := small_of_all (last := a.last) (by have := fault_zero h; omega) (fault_zero h).2.2.2.2.1
theorem sizes_nat {a : Acc} (h : faultS a = 0) : ((sizes a.entries).toNat : Int) = sizes a.entries ∧ sizes a.entries ≤ 1000 := by
  have h1 := sizes_lt (valid_small h) (Nat.le_refl _)
  rw [List.take_length] at h1
  have := fault_zero h
  omega
end AM.Try
end
/- The statements: what is read of the arguments is what the walks take; what a pure call leaves is what the statements ask. -/
section
namespace AM.Try
set_option maxRecDepth 100000
open Go AM AM.Duty Go.ChangeShapes Go.WideShapes Go.ChangeAt Go.RowKit
noncomputable abbrev TP : Program := Go.Proofs.Try.prog
theorem tp_laid : laidOutB TP = true := by kernel_rfl
theorem tp_maps : mapsRowed TP = true := by kernel_rfl
theorem tp_kids : Kids TP (· < TP.types.size) := kids_rows tp_laid tp_maps
theorem tp_full : ∀ t e, t < TP.types.size → TP.underlying t = some (.slice e) → 0 < TP.cellsOf e := slices_full_of TP (by kernel_rfl)
theorem tp_own : ownKnob TP.godebug = none := by kernel_rfl
section
variable {H : Type} {enc : TypeId × Value → H} {W W' : World}
theorem same_at (hk : Keeps (fun b => W.heap.size ≤ b) W W') {p : MemPlace} (hp : p.block < W.heap.size) : W.sameAt W' p := by
  have h := hk.same p.block hp (by omega)
  cases p with
  | cell b off => simp only [World.sameAt, World.cell?]; rw [show W'.heap[b]? = W.heap[b]? from h]
  | map b => exact h
theorem reads_again (hk : Keeps (fun b => W.heap.size ≤ b) W W') (sp : Nat → Bool) : ∀ {ts : List TypeId} {vs : List Value} {ds : List (DataW H)} {p : List MemPlace},
    (∀ t ∈ ts, t < TP.types.size) → DataW.TrodAll enc TP W 0 (fun _ => true) true ts vs ds p → (∀ x ∈ p, x.block < W.heap.size) → (∀ x ∈ p, sp x.block = true) → DataW.TrodAll enc TP W' 0 sp true ts vs ds p
  | [], [], [], _, _, h, _, _ => h
  | _ :: _, _ :: _, _ :: _, _, hT, ⟨p, q, ⟨n, h1⟩, h2, e⟩, hl, hs =>
    ⟨p, q, ⟨n, DataW.trod_stays tp_kids (fun ht hu => tp_full _ _ ht hu) (fun h => by cases h) (hT _ (List.mem_cons.2 (Or.inl rfl))) h1 (fun x hx => same_at hk (hl x (by rw [e]; exact List.mem_append_left _ hx))) (fun x hx => hs x (by rw [e]; exact List.mem_append_left _ hx))⟩,
      reads_again hk sp (fun t ht => hT t (List.mem_cons.2 (Or.inr ht))) h2 (fun x hx => hl x (by rw [e]; exact List.mem_append_right _ hx)) (fun x hx => hs x (by rw [e]; exact List.mem_append_right _ hx)), e⟩
theorem kept_of_keeps (hk : Keeps (fun b => W.heap.size ≤ b) W W') (may : MemPlace → Prop) : W.keptBut W' may := by
  refine ⟨hk.os, hk.output, fun i hi => ?_⟩
  have h := hk.same i hi (by omega)
  rw [h]
  cases W.heap[i]? with
  | none => rfl
  | some o => cases o <;> first | exact ⟨rfl, rfl, rfl, fun _ _ => rfl⟩ | exact .inr ⟨rfl, rfl⟩ | rfl
theorem law_post {fn : Func} {s : ChangeSpec} {args : Array Value} {ds gs : List (DataW H)} {before : List MemPlace} (hr : fn.resultTypes = #[4]) (hp : ∀ t ∈ fn.params.toList, t < TP.types.size) (hv : s.vars = [])
    (hfn : s.fn H (ds ++ gs) = { results := [.lit (.bool true)], args := ds }) (hW : DataW.Whole enc TP fn.params.toList s.vars false W args.toList ds gs before) (hk : Keeps (fun b => W.heap.size ≤ b) W W') :
    s.post enc TP fn false true false false W args (.bool true) W' := by
  have hW0 := hW
  obtain ⟨p, q, hA, hV, rfl, hz, hn⟩ := hW
  rw [hv] at hV
  obtain ⟨rfl, rfl⟩ := trodVars_none hV
  have hlt : ∀ x ∈ p, x.block < W.heap.size := hA.lt
  refine ⟨ds, [], p ++ [], [], p, [], hW0, ?_, ?_, ?_, World.keptBut_mono (fun x hx => ⟨hx, .inr (.inl (by simpa using hx))⟩) (kept_of_keeps hk _), fun h => by cases h⟩
  · rw [hfn, hr]; exact trodAll_mk1 (shut_bool Go.Proofs.Try.underlying4 true)
  · rw [hfn]; exact reads_again hk _ hp hA hlt (fun x hx => by simpa using hlt x hx)
  · rw [hfn, hv]; rfl
theorem law_calls {f : FuncId} {avs : List AV} {fn : Func} {s : ChangeSpec} {args : Array Value} {ds gs : List (DataW H)} {before : List MemPlace} (hc : PCall TP f avs (bl true)) (hsz : args.size = avs.length) (hrel : ∀ θ (i : Nat) (x : AV), avs[i]? = some x → ARel θ (fun _ => False) W x (args.getD i undef))
    (hr : fn.resultTypes = #[4]) (hp : ∀ t ∈ fn.params.toList, t < TP.types.size) (hv : s.vars = []) (hfn : s.fn H (ds ++ gs) = { results := [.lit (.bool true)], args := ds }) (hW : DataW.Whole enc TP fn.params.toList s.vars false W args.toList ds gs before) :
    Calls TP f args W fun e W' => ∃ v, e = .returned v ∧ s.post enc TP fn false true false false W args v W' := by
  refine (hc.2 (fun _ => ⟨0, 0, true⟩) (fun _ => False) W args (fun b h => h.elim) hsz (fun i x hx => hrel _ i x hx)).mono ?_
  rintro e W' ⟨v, rfl, hv', hk⟩
  cases hv' with
  | p _ _ h =>
    cases h with
    | val _ _ => exact ⟨_, rfl, law_post hr hp hv hfn hW hk⟩
theorem prel_rows {rows : List (List Int)} {b o len cap k : Nat} (hlen : rows.length = len) (hc : len ≤ cap) (hk : ∀ r ∈ rows, r.length = k)
    (hcell : ∀ (i : Nat) (r : List Int) (j : Nat) (m : Int), rows[i]? = some r → r[j]? = some m → W.cell? ⟨b, o + (i * k + j), none⟩ = some (.int .i64 m)) : PRel (fun _ => False) W (.sl (rows.map fun r => r.map iv)) (.slice (some ⟨b, o, none⟩) len cap) := by
  have h := PRel.sl (M := fun _ => False) (w := W) (rows.map fun r => r.map iv) b o cap k (fun i j => (W.cell? ⟨b, o + (i * k + j), none⟩).getD undef) (fun i e he => ?_) (by rw [List.length_map, hlen]; exact hc) (fun i e j x he hx => ?_) (fun i e j x he hx => ?_)
  · rw [List.length_map, hlen] at h; exact h
  · simp only [List.getElem?_map, Option.map_eq_some_iff] at he
    obtain ⟨r, hr, rfl⟩ := he
    rw [List.length_map]; exact hk r (List.mem_of_getElem? hr)
  all_goals
    simp only [List.getElem?_map, Option.map_eq_some_iff] at he
    obtain ⟨r, hr, rfl⟩ := he
    simp only [List.getElem?_map, Option.map_eq_some_iff] at hx
    obtain ⟨m, hm, rfl⟩ := hx
    have hc := hcell i r j m hr hm
    rw [hc]
  · exact ⟨fun h => h, rfl⟩
  · exact .val _ rfl
theorem inR_wf {m : Int} (h : (Lit.int .i64 m).wf = true) : inR m = true := by
  simp only [Lit.wf, IntKind.min, IntKind.max, IntKind.signed, IntKind.bits, Bool.and_eq_true, decide_eq_true_eq] at h
  simp only [inR, Bool.and_eq_true, decide_eq_true_eq]
  constructor <;> simp_all
theorem add_none {b o i : Nat} : Addr.add ⟨b, o, none⟩ i = ⟨b, o + i, none⟩ := by
  unfold Addr.add
  split
  · rename_i h; simp_all
  · rfl
theorem open_recs {t e k fuel : Nat} {cs : List Value} {x : DataW H × List MemPlace} (ht : TP.underlying t = some (.slice e)) (hk : TP.cellsOf e = k)
    (hel : ∀ n cs x, DataW.trod enc TP W 0 (fun _ => true) true n e cs = some x → ∃ ms : List Int, cs = ms.map (fun m => Value.int .i64 m) ∧ ms.length = k ∧ ∀ m ∈ ms, inR m = true)
    (h : DataW.trod enc TP W 0 (fun _ => true) true fuel t cs = some x) (hsp : ∀ a len cap, cs = [.slice (some a) len cap] → a.spot = none) :
    ∃ rows : List (List Int), (∀ r ∈ rows, r.length = k ∧ ∀ m ∈ r, inR m = true) ∧ ∃ v, cs = [v] ∧ PRel (fun _ => False) W (.sl (rows.map fun r => r.map iv)) v := by
  rcases Go.Deep.open_slice ht h with ⟨rfl, _⟩ | ⟨a, len, cap, m, n, D, Pl, rfl, _, hl, hm, hmm, _, hi⟩
  · exact ⟨[], by simp, _, rfl, .nil⟩
  · have hs := hsp a len cap rfl
    obtain ⟨b, o, sp⟩ := a
    dsimp only at hs; subst hs
    simp only [if_true] at hmm
    subst hmm
    obtain ⟨F, hF⟩ := Go.Deep.choose_lt (α := List Int) (n := m) (p := fun i ms => W.cells? 0 (Addr.add ⟨b, o, none⟩ (i * k)) k = some (ms.map fun m => Value.int .i64 m) ∧ ms.length = k ∧ ∀ m ∈ ms, inR m = true) (fun i h1 => by
      obtain ⟨cs', h2, h3⟩ := hi i h1
      obtain ⟨ms, rfl, h4, h5⟩ := hel _ _ _ h3
      rw [hk] at h2
      exact ⟨ms, h2, h4, h5⟩)
    refine ⟨(List.range len).map F, fun r hr => ?_, _, rfl, prel_rows (k := k) (by simp) hl (fun r hr => ?_) (fun i r j m hr hm => ?_)⟩
    · obtain ⟨i, h1, rfl⟩ := List.mem_map.1 hr
      exact (hF i (by have := List.mem_range.1 h1; omega)).2
    · obtain ⟨i, h1, rfl⟩ := List.mem_map.1 hr
      exact (hF i (by have := List.mem_range.1 h1; omega)).2.1
    · simp only [List.getElem?_map, Option.map_eq_some_iff] at hr
      obtain ⟨i', h1, rfl⟩ := hr
      have hlt : i < len := by
        have := (List.getElem?_eq_some_iff.1 h1).1; simpa using this
      have e : i' = i := by
        rw [List.getElem?_range hlt] at h1; exact (Option.some.inj h1).symm
      subst e
      obtain ⟨h2, h3, _⟩ := hF i' (by omega)
      obtain ⟨_, _, h4⟩ := World.cells?_some h2
      have hj : j < k := by rw [← h3]; exact (List.getElem?_eq_some_iff.1 hm).1
      have h5 := h4 j hj
      rw [List.getElem?_map, hm] at h5
      rw [add_none, add_none, Nat.add_assoc] at h5
      exact h5
theorem el3 (n : Nat) (cs : List Value) (x : DataW H × List MemPlace) (h : DataW.trod enc TP W 0 (fun _ => true) true n 3 cs = some x) : ∃ ms : List Int, cs = ms.map (fun m => Value.int .i64 m) ∧ ms.length = 1 ∧ ∀ m ∈ ms, inR m = true := by
  obtain ⟨m, rfl, _, hw⟩ := DataW.trod_int Go.Proofs.Try.underlying3 h
  exact ⟨[m], rfl, rfl, fun y hy => by rw [List.mem_singleton.1 hy]; exact inR_wf hw⟩
theorem cells3 : TP.cellsOf 3 = 1 := by kernel_rfl
theorem cells92 : TP.cellsOf 92 = 2 := by kernel_rfl
theorem cells56 : TP.cellsOf 56 = 2 := by kernel_rfl
theorem cells78 : TP.cellsOf 78 = 5 := by kernel_rfl
theorem cells25 : TP.cellsOf 25 = 6 := by kernel_rfl
theorem cells22 : TP.cellsOf 22 = 1 := by kernel_rfl
theorem cells23 : TP.cellsOf 23 = 1 := by kernel_rfl
theorem one_of {cs : List Value} {j : Nat} {ms : List Int} (h1 : (cs.drop j).take 1 = ms.map (fun m => Value.int .i64 m)) (h2 : ms.length = 1) (h3 : ∀ m ∈ ms, inR m = true) : ∃ m, cs[j]? = some (.int .i64 m) ∧ inR m = true := by
  obtain ⟨m, rfl⟩ := List.length_eq_one_iff.1 h2
  refine ⟨m, ?_, h3 m (by simp)⟩
  have h := congrArg (fun l => l[0]?) h1
  simpa using h
theorem at3 {n j : Nat} {cs : List Value} {x : DataW H × List MemPlace} (h : DataW.trod enc TP W 0 (fun _ => true) true n 3 ((cs.drop j).take 1) = some x) : ∃ m, cs[j]? = some (.int .i64 m) ∧ inR m = true := by
  obtain ⟨ms, h1, h2, h3⟩ := el3 _ _ _ h
  exact one_of h1 h2 h3
theorem two_struct {e n : Nat} {f0 f1 : Field} {cs : List Value} {x : DataW H × List MemPlace} (he : TP.underlying e = some (.struct #[f0, f1])) (hc : TP.cellsOf e = 2) (h0 : f0.type = 3 ∧ f0.offset = 0) (h1 : f1.type = 3 ∧ f1.offset = 1)
    (h : DataW.trod enc TP W 0 (fun _ => true) true n e cs = some x) : ∃ ms : List Int, cs = ms.map (fun m => Value.int .i64 m) ∧ ms.length = 2 ∧ ∀ m ∈ ms, inR m = true := by
  obtain ⟨xs, n', _, _, hl, hxs, hf⟩ := DataW.trod_struct he h
  have hxs : xs.length = 2 := hxs
  match xs, hxs with
  | [y0, y1], _ =>
    have g0 := hf 0 f0 rfl
    have g1 := hf 1 f1 rfl
    rw [h0.1, h0.2, cells3] at g0
    rw [h1.1, h1.2, cells3] at g1
    obtain ⟨a, ha, wa⟩ := at3 g0
    obtain ⟨b, hb, wb⟩ := at3 g1
    rw [hc] at hl
    match cs, hl with
    | [c0, c1], _ =>
      simp only [List.getElem?_cons_zero, Option.some.injEq] at ha
      simp only [List.getElem?_cons_succ, List.getElem?_cons_zero, Option.some.injEq] at hb
      subst ha hb
      exact ⟨[a, b], rfl, rfl, fun y hy => by simp at hy; rcases hy with rfl | rfl <;> assumption⟩
theorem el92 (n : Nat) (cs : List Value) (x : DataW H × List MemPlace) (h : DataW.trod enc TP W 0 (fun _ => true) true n 92 cs = some x) : ∃ ms : List Int, cs = ms.map (fun m => Value.int .i64 m) ∧ ms.length = 2 ∧ ∀ m ∈ ms, inR m = true :=
  two_struct Go.Proofs.Try.underlying92 cells92 ⟨rfl, rfl⟩ ⟨rfl, rfl⟩ h
theorem four_struct {e n : Nat} {f0 f1 f2 f3 : Field} {cs : List Value} {x : DataW H × List MemPlace} (he : TP.underlying e = some (.struct #[f0, f1, f2, f3])) (hc : TP.cellsOf e = 5) (h0 : f0.type = 3 ∧ f0.offset = 0) (h1 : f1.type = 3 ∧ f1.offset = 1) (h2 : f2.type = 56 ∧ f2.offset = 2) (h3 : f3.type = 3 ∧ f3.offset = 4)
    (h : DataW.trod enc TP W 0 (fun _ => true) true n e cs = some x) : ∃ ms : List Int, cs = ms.map (fun m => Value.int .i64 m) ∧ ms.length = 5 ∧ ∀ m ∈ ms, inR m = true := by
  obtain ⟨xs, n', _, _, hl, hxs, hf⟩ := DataW.trod_struct he h
  have hxs : xs.length = 4 := hxs
  match xs, hxs with
  | [y0, y1, y2, y3], _ =>
    have g0 := hf 0 f0 rfl
    have g1 := hf 1 f1 rfl
    have g2 := hf 2 f2 rfl
    have g3 := hf 3 f3 rfl
    rw [h0.1, h0.2, cells3] at g0
    rw [h1.1, h1.2, cells3] at g1
    rw [h2.1, h2.2, cells56] at g2
    rw [h3.1, h3.2, cells3] at g3
    obtain ⟨a, ha, wa⟩ := at3 g0
    obtain ⟨b, hb, wb⟩ := at3 g1
    obtain ⟨ms, k1, k2, k3⟩ := two_struct Go.Proofs.Try.underlying56 cells56 ⟨rfl, rfl⟩ ⟨rfl, rfl⟩ g2
    obtain ⟨c, hc', wc⟩ := at3 g3
    rw [hc] at hl
    match cs, hl, ms, k2 with
    | [c0, c1, c2, c3, c4], _, [m0, m1], _ =>
      simp at ha hb hc' k1
      obtain ⟨rfl, rfl⟩ := k1
      subst ha hb hc'
      exact ⟨[a, b, m0, m1, c], rfl, rfl, fun y hy => by
        simp at hy
        rcases hy with rfl | rfl | rfl | rfl | rfl
        · exact wa
        · exact wb
        · exact k3 _ (by simp)
        · exact k3 _ (by simp)
        · exact wc⟩
theorem el78 (n : Nat) (cs : List Value) (x : DataW H × List MemPlace) (h : DataW.trod enc TP W 0 (fun _ => true) true n 78 cs = some x) : ∃ ms : List Int, cs = ms.map (fun m => Value.int .i64 m) ∧ ms.length = 5 ∧ ∀ m ∈ ms, inR m = true :=
  four_struct Go.Proofs.Try.underlying78 cells78 ⟨rfl, rfl⟩ ⟨rfl, rfl⟩ ⟨rfl, rfl⟩ ⟨rfl, rfl⟩ h
theorem sl_at {t j n : Nat} {cs : List Value} {x : DataW H × List MemPlace} (h : DataW.trod enc TP W 0 (fun _ => true) true n t ((cs.drop j).take 1) = some x) (hj : j < cs.length) : ∃ v, cs[j]? = some v ∧ DataW.trod enc TP W 0 (fun _ => true) true n t [v] = some x := by
  refine ⟨cs[j], List.getElem?_eq_getElem hj, ?_⟩
  rw [List.drop_eq_getElem_cons hj] at h
  exact h
def AccIn (a : Acc) : Prop := (inR a.last = true ∧ inR a.interest = true ∧ inR a.bond = true ∧ inR a.purse = true) ∧ (∀ r ∈ a.rates, inR r.day = true ∧ inR r.pence = true) ∧ ∀ e ∈ a.entries, inR e.kind = true ∧ inR e.day = true ∧ inR e.lo = true ∧ inR e.hi = true ∧ inR e.pence = true
def mkR (l : List Int) : Rate := ⟨l.getD 0 0, l.getD 1 0⟩
def mkE (l : List Int) : Entry := ⟨l.getD 0 0, l.getD 1 0, l.getD 2 0, l.getD 3 0, l.getD 4 0⟩
theorem encR_mk {l : List Int} (h : l.length = 2) : encR (mkR l) = l.map iv := by
  match l, h with
  | [a, b], _ => rfl
theorem encE_mk {l : List Int} (h : l.length = 5) : encE (mkE l) = l.map iv := by
  match l, h with
  | [a, b, c, d, e], _ => rfl
theorem six_struct {e n : Nat} {f0 f1 f2 f3 f4 f5 : Field} {cs : List Value} {x : DataW H × List MemPlace} (he : TP.underlying e = some (.struct #[f0, f1, f2, f3, f4, f5])) (hc : TP.cellsOf e = 6) (h0 : f0.type = 3 ∧ f0.offset = 0) (h1 : f1.type = 3 ∧ f1.offset = 1) (h2 : f2.type = 3 ∧ f2.offset = 2) (h3 : f3.type = 3 ∧ f3.offset = 3) (h4 : f4.type = 22 ∧ f4.offset = 4) (h5 : f5.type = 23 ∧ f5.offset = 5)
    (hs4 : ∀ b len cap, cs[4]? = some (.slice (some b) len cap) → b.spot = none) (hs5 : ∀ b len cap, cs[5]? = some (.slice (some b) len cap) → b.spot = none)
    (h : DataW.trod enc TP W 0 (fun _ => true) true n e cs = some x) : ∃ a : Acc, AccIn a ∧ ∀ θ, ARel θ (fun _ => False) W (avA a) (.agg cs.toArray) := by
  obtain ⟨xs, n', _, _, hl, hxs, hf⟩ := DataW.trod_struct he h
  have hxs : xs.length = 6 := hxs
  match xs, hxs with
  | [y0, y1, y2, y3, y4, y5], _ =>
    have g0 := hf 0 f0 rfl
    have g1 := hf 1 f1 rfl
    have g2 := hf 2 f2 rfl
    have g3 := hf 3 f3 rfl
    have g4 := hf 4 f4 rfl
    have g5 := hf 5 f5 rfl
    rw [h0.1, h0.2, cells3] at g0
    rw [h1.1, h1.2, cells3] at g1
    rw [h2.1, h2.2, cells3] at g2
    rw [h3.1, h3.2, cells3] at g3
    rw [h4.1, h4.2, cells22] at g4
    rw [h5.1, h5.2, cells23] at g5
    obtain ⟨a, ha, wa⟩ := at3 g0
    obtain ⟨b, hb, wb⟩ := at3 g1
    obtain ⟨c, hc', wc⟩ := at3 g2
    obtain ⟨d, hd, wd⟩ := at3 g3
    rw [hc] at hl
    obtain ⟨v4, hv4, k4⟩ := sl_at g4 (by omega)
    obtain ⟨v5, hv5, k5⟩ := sl_at g5 (by omega)
    obtain ⟨rs, r1, v4', r2, r3⟩ := open_recs Go.Proofs.Try.underlying22 cells92 el92 k4 (fun b len cap e => hs4 b len cap (by rw [hv4, List.head_eq_of_cons_eq e]))
    obtain ⟨es, e1, v5', e2, e3⟩ := open_recs Go.Proofs.Try.underlying23 cells78 el78 k5 (fun b len cap e => hs5 b len cap (by rw [hv5, List.head_eq_of_cons_eq e]))
    have r2 := List.head_eq_of_cons_eq r2
    have e2 := List.head_eq_of_cons_eq e2
    subst r2 e2
    match cs, hl with
    | [c0, c1, c2, c3, c4, c5], _ =>
      simp at ha hb hc' hd hv4 hv5
      subst ha hb hc' hd hv4 hv5
      have hrs : (rs.map mkR).map encR = rs.map fun r => r.map iv := by
        rw [List.map_map]; exact List.map_congr_left fun r hr => encR_mk (r1 r hr).1
      have hes : (es.map mkE).map encE = es.map fun r => r.map iv := by
        rw [List.map_map]; exact List.map_congr_left fun r hr => encE_mk (e1 r hr).1
      refine ⟨⟨a, b, c, d, rs.map mkR, es.map mkE⟩, ⟨⟨wa, wb, wc, wd⟩, fun r hr => ?_, fun e he => ?_⟩, fun θ => .agg _ _ rfl (fun i hi => ?_) (fun i x hx => ?_)⟩
      · obtain ⟨l, hl, rfl⟩ := List.mem_map.1 hr
        obtain ⟨h1, h2⟩ := r1 l hl
        match l, h1 with
        | [p, q], _ => exact ⟨h2 _ (by simp [mkR]), h2 _ (by simp [mkR])⟩
      · obtain ⟨l, hl, rfl⟩ := List.mem_map.1 he
        obtain ⟨h1, h2⟩ := e1 l hl
        match l, h1 with
        | [p, q, r, s, u], _ => exact ⟨h2 _ (by simp [mkE]), h2 _ (by simp [mkE]), h2 _ (by simp [mkE]), h2 _ (by simp [mkE]), h2 _ (by simp [mkE])⟩
      · have hr := r3.oneCell
        have he := e3.oneCell
        match i, hi with
        | 0, _ => rfl
        | 1, _ => rfl
        | 2, _ => rfl
        | 3, _ => rfl
        | 4, _ => exact hr
        | 5, _ => exact he
      · match i, hx with
        | 0, hx => cases hx; exact .p _ _ (.val _ rfl)
        | 1, hx => cases hx; exact .p _ _ (.val _ rfl)
        | 2, hx => cases hx; exact .p _ _ (.val _ rfl)
        | 3, hx => cases hx; exact .p _ _ (.val _ rfl)
        | 4, hx => cases hx; dsimp only; rw [hrs]; exact .p _ _ r3
        | 5, hx => cases hx; dsimp only; rw [hes]; exact .p _ _ e3
theorem types25 : TP.cellTypes TP.depth 25 = some [3, 3, 3, 3, 22, 23] := by kernel_rfl
theorem open_acc {base : Nat} {v : Value} {d : DataW H} {p : List MemPlace} (hv : Value.okWide TP W .any base 25 v) (h : DataW.Trod enc TP W 0 (fun _ => true) true 25 v d p) : ∃ a : Acc, AccIn a ∧ ∀ θ, ARel θ (fun _ => False) W (avA a) v := by
  simp only [Value.okWide, Go.Proofs.Try.underlying25] at hv
  obtain ⟨cs, rfl, _, ts, hts, _, hall⟩ := hv
  rw [types25] at hts
  cases hts
  obtain ⟨n, hn⟩ := h
  obtain ⟨l⟩ := cs
  refine six_struct Go.Proofs.Try.underlying25 cells25 ⟨rfl, rfl⟩ ⟨rfl, rfl⟩ ⟨rfl, rfl⟩ ⟨rfl, rfl⟩ ⟨rfl, rfl⟩ ⟨rfl, rfl⟩ (fun b len cap hb => ?_) (fun b len cap hb => ?_) hn
  · obtain ⟨u, hu, hok⟩ := hall 4 _ (by simpa using hb)
    simp at hu; subst hu
    simp only [Go.Proofs.Try.underlying22, Cell.okWide, Cell.ok, World.has] at hok
    exact hok.2.2.2.1
  · obtain ⟨u, hu, hok⟩ := hall 5 _ (by simpa using hb)
    simp at hu; subst hu
    simp only [Go.Proofs.Try.underlying23, Cell.okWide, Cell.ok, World.has] at hok
    exact hok.2.2.2.1
end
end AM.Try
end
/- The law of plays. -/
section
namespace AM.Try
open Go AM AM.Duty
open Nat renaming reduceLT → sA, reduceAdd → sB, reduceMul → sC, reduceSub → sD, reduceLeDiff → sE, reduceEqDiff → sF, reduceBEq → sG
open Int renaming reduceAdd → sH, reduceSub → sI, reduceMul → sJ, reduceLT → sK, reduceLE → sL, reduceNeg → sM, reduceToNat → sN, reduceEq → sO
set_option maxHeartbeats 8000000
set_option maxRecDepth 100000
theorem c24 (a : Acc) (hl1 : a.rates.length < 1000000) (hl2 : a.entries.length < 1000000) : PCall Go.Proofs.Try.prog 24 [avA a] (i64 (faultS a)) := by
  refine pcall_mk (v := []) (q := []) (N := 5) (rs := [.tmp 2]) Go.Proofs.Try.func24 rfl rfl rfl rfl rfl ?_
  refine awp_seq_k fun K1 hK1 => ?_
  refine awp_ops ?_
  simp (disch := omega) only [amL, sA, ↓reduceIte]
  refine hK1 _ ?_
  refine awp_seq_k fun K2 hK2 => ?_
  refine awp_ops ?_
  simp (disch := omega) only [amL, amT, sA, sB, sF, ↓reduceIte]
  repeat' first | (refine EC_intro (by kernel_rfl) rfl (c61 a hl1 hl2) (by first | exact .inl rfl | exact .inr (.inl rfl)) ?_ ; simp (disch := omega) only [amL, sA, ↓reduceIte])
  refine hK2 _ ?_
  refine awp_ret ?_
  try simp (disch := omega) only [amL, ↓reduceIte]
  skip
theorem debts_len {a : Acc} {t paid : List Int} : ∀ {c day : Nat} {w : Wk}, (debtsF a t paid c day w).1.length = c
  | 0, _, _ => rfl
  | c + 1, day, w => by simp only [debtsF, List.length_cons, debts_len]
theorem playA_eq (a : Acc) (t : List Int) : playA a t = if faultS a = 0 then if listedS a.entries t = true then if (debtsS a t []).2 = true then .tup [isl (debtsS a t []).1, i64 0] else .tup [nilS, i64 11] else .tup [nilS, i64 2] else .tup [nilS, i64 (faultS a)] := by
  unfold playA
  split
  · rename_i hf
    obtain ⟨h1, h2⟩ := playS_ask hf t
    rw [listed_eq, h1]
    split
    · split
      · rename_i h; rw [h2 h]
      · rfl
    · rfl
  · rfl
theorem in_of {a : Acc} (h : AccIn a) : ∀ e ∈ a.entries, inR e.lo = true ∧ inR e.hi = true := fun e he => ⟨(h.2.2 e he).2.2.1, (h.2.2 e he).2.2.2.1⟩
end AM.Try
end
/- The laws' conditions; the reference: truths. -/
section
namespace AM.Try
open Go AM AM.Duty
open Nat renaming reduceLT → sA, reduceAdd → sB, reduceMul → sC, reduceSub → sD, reduceLeDiff → sE, reduceEqDiff → sF, reduceBEq → sG
open Int renaming reduceAdd → sH, reduceSub → sI, reduceMul → sJ, reduceLT → sK, reduceLE → sL, reduceNeg → sM, reduceToNat → sN, reduceEq → sO
set_option maxHeartbeats 8000000
set_option maxRecDepth 100000
def thinS (a : Acc) : Bool := decide (a.rates.length ≤ 7) && decide (a.entries.length ≤ 11)
theorem c19t (a : Acc) : PCall Go.Proofs.Try.prog 19 [avA a] (bl (thinS a)) := c19 a
theorem thin_len {a : Acc} (h : thinS a = true) : a.rates.length ≤ 7 ∧ a.entries.length ≤ 11 := by simpa [thinS] using h
end AM.Try
end
/- The reference: the bounds of a day. -/
section
namespace AM.Try
open Go AM AM.Duty
open Nat renaming reduceLT → sA, reduceAdd → sB, reduceMul → sC, reduceSub → sD, reduceLeDiff → sE, reduceEqDiff → sF, reduceBEq → sG
open Int renaming reduceAdd → sH, reduceSub → sI, reduceMul → sJ, reduceLT → sK, reduceLE → sL, reduceNeg → sM, reduceToNat → sN, reduceEq → sO
set_option maxHeartbeats 8000000
set_option maxRecDepth 100000
theorem debts_full {a : Acc} (t : List Int) (paid : List Int) : (debtsS a t paid).1.length = (a.last + 1).toNat := by unfold debtsS; rw [debts_len]
end AM.Try
end
/- Plain laws: the program's truths are the reference's. -/
section
namespace AM.Try
open Go AM AM.Duty
open Nat renaming reduceLT → sA, reduceAdd → sB, reduceMul → sC, reduceSub → sD, reduceLeDiff → sE, reduceEqDiff → sF, reduceBEq → sG
open Int renaming reduceAdd → sH, reduceSub → sI, reduceMul → sJ, reduceLT → sK, reduceLE → sL, reduceNeg → sM, reduceToNat → sN, reduceEq → sO
theorem nth_listed : ∀ {es : List Entry} {n : Int}, (∀ e ∈ es, e.lo ≤ e.hi) → listedP es (nthS es n) = true
  | [], _, _ => rfl
  | e :: es, n, h => by
    have h1 := h e (by simp)
    have h3 := nth_listed (es := es) (n := n / (e.hi - e.lo + 1)) fun x hx => h x (by simp [hx])
    simp only [nthS, listedP, h3, Bool.and_true, inB, Bool.and_eq_true, decide_eq_true_eq]
    have h2 := mod_bound (m := n) (s := e.hi - e.lo + 1) (by omega)
    omega
theorem lo_le {a : Acc} (hf : faultS a = 0) : ∀ e ∈ a.entries, e.lo ≤ e.hi := fun e he => (isEntry_small (List.all_eq_true.1 (fault_zero hf).2.2.2.2.1 e he)).2.1
end AM.Try
end
/- Plain laws: bounds and whether the bond is kept, of the same truths. -/
section
namespace AM.Try
open Go AM AM.Duty
open Nat renaming reduceLT → sA, reduceAdd → sB, reduceMul → sC, reduceSub → sD, reduceLeDiff → sE, reduceEqDiff → sF, reduceBEq → sG
open Int renaming reduceAdd → sH, reduceSub → sI, reduceMul → sJ, reduceLT → sK, reduceLE → sL, reduceNeg → sM, reduceToNat → sN, reduceEq → sO
theorem last_in {a : Acc} (hf : faultS a = 0) : 0 ≤ a.last ∧ a.last ≤ 11 := by
  obtain ⟨_, _, z3, _, _, _⟩ := fault_zero hf
  simp only [inB, Bool.and_eq_true, decide_eq_true_eq] at z3
  omega
end AM.Try
end
/- Plain laws: the search for the smallest set; bits. -/
section
namespace AM.Try
open Go AM AM.Duty
open Nat renaming reduceLT → sA, reduceAdd → sB, reduceMul → sC, reduceSub → sD, reduceLeDiff → sE, reduceEqDiff → sF, reduceBEq → sG
open Int renaming reduceAdd → sH, reduceSub → sI, reduceMul → sJ, reduceLT → sK, reduceLE → sL, reduceNeg → sM, reduceToNat → sN, reduceEq → sO
def bitsF : Nat → Nat → Nat → List Int
  | 0, _, _ => []
  | c + 1, p, n => if n % 2 = 1 then (p : Int) :: bitsF c (p + 1) (n / 2) else bitsF c (p + 1) (n / 2)
def bitsS (n : Nat) : List Int := bitsF 16 0 n
def woR : Nat → List Entry → List Entry
  | _, [] => []
  | n, e :: es => if n % 2 = 0 then e :: woR (n / 2) es else woR (n / 2) es
def withoutR (a : Acc) (n : Nat) : Acc := { a with entries := woR n a.entries }
theorem woF_congr {o o' : List Int} : ∀ {es : List Entry} {j : Nat}, (∀ i : Nat, j ≤ i → ((i : Int) ∈ o ↔ (i : Int) ∈ o')) → woF o j es = woF o' j es
  | [], j, _ => rfl
  | e :: es, j, h => by
    simp only [woF]
    have h1 := h j (Nat.le_refl _)
    have h2 := woF_congr (es := es) (j := j + 1) fun i hi => h i (by omega)
    by_cases hm : (j : Int) ∈ o
    · rw [if_pos hm, if_pos (h1.1 hm), h2]
    · rw [if_neg hm, if_neg (fun x => hm (h1.2 x)), h2]
theorem bitsF_low : ∀ {c p n : Nat} {x : Int}, x ∈ bitsF c p n → (p : Int) ≤ x
  | 0, _, _, _, h => by cases h
  | c + 1, p, n, x, h => by
    simp only [bitsF] at h
    split at h
    · rcases List.mem_cons.1 h with rfl | h
      · omega
      · have := bitsF_low h; omega
    · have := bitsF_low h; omega
theorem wo_bits : ∀ {es : List Entry} {c p n : Nat}, es.length ≤ c → woF (bitsF c p n) p es = woR n es
  | [], _, _, _, _ => rfl
  | e :: es, 0, p, n, h => by simp at h
  | e :: es, c + 1, p, n, h => by
    have ih := wo_bits (es := es) (c := c) (p := p + 1) (n := n / 2) (by simpa using h)
    simp only [woF, woR]
    by_cases hn : n % 2 = 1
    · have hb : bitsF (c + 1) p n = (p : Int) :: bitsF c (p + 1) (n / 2) := by simp only [bitsF]; rw [if_pos hn]
      rw [hb, if_pos (by simp), if_neg (by omega), ← ih]
      refine woF_congr fun i hi => ?_
      rw [List.mem_cons]
      exact ⟨fun h => h.resolve_left (by omega), .inr⟩
    · have hb : bitsF (c + 1) p n = bitsF c (p + 1) (n / 2) := by simp only [bitsF]; rw [if_neg hn]
      have hnm : ¬ (p : Int) ∈ bitsF c (p + 1) (n / 2) := fun h => by have := bitsF_low h; omega
      rw [hb, if_neg hnm, if_pos (by omega), ← ih]
theorem without_eq {a : Acc} (hl : a.entries.length ≤ 16) (n : Nat) : withoutP a (bitsS n) = withoutR a n := by
  unfold withoutP withoutR bitsS
  rw [wo_bits hl]
end AM.Try
end
/- The reference: bits. -/
section
namespace AM.Try
open Go AM AM.Duty
open Nat renaming reduceLT → sA, reduceAdd → sB, reduceMul → sC, reduceSub → sD, reduceLeDiff → sE, reduceEqDiff → sF, reduceBEq → sG
open Int renaming reduceAdd → sH, reduceSub → sI, reduceMul → sJ, reduceLT → sK, reduceLE → sL, reduceNeg → sM, reduceToNat → sN, reduceEq → sO
set_option maxHeartbeats 8000000
set_option maxRecDepth 100000
theorem wrapU {x : Int} (h1 : 0 ≤ x) (h2 : x < 9223372036854775808) : IntKind.wrap .u64 x = x := by
  simp only [IntKind.wrap, IntKind.signed, IntKind.bits]
  simp; omega
theorem shrN {n p : Nat} (h : p ≤ 16) : ((n : Int).fdiv (2 ^ (min p IntKind.i64.bits)) : Int) = ((n / 2 ^ p : Nat) : Int) := by
  have e : (2 : Int) ^ p = ((2 ^ p : Nat) : Int) := by rw [Int.natCast_pow]; rfl
  rw [Nat.min_eq_left (by simp only [IntKind.bits]; omega), e, Int.fdiv_eq_ediv_of_nonneg _ (Int.natCast_nonneg _), Int.natCast_ediv]
end AM.Try
end
/- The reference: the fewest payments. -/
section
namespace AM.Try
open Go AM AM.Duty
open Nat renaming reduceLT → sA, reduceAdd → sB, reduceMul → sC, reduceSub → sD, reduceLeDiff → sE, reduceEqDiff → sF, reduceBEq → sG
open Int renaming reduceAdd → sH, reduceSub → sI, reduceMul → sJ, reduceLT → sK, reduceLE → sL, reduceNeg → sM, reduceToNat → sN, reduceEq → sO
set_option maxHeartbeats 8000000
set_option maxRecDepth 100000
theorem shl1 {n : Nat} (h : n ≤ 16) : ((1 : Int) * 2 ^ (min n IntKind.i64.bits) : Int) = ((2 ^ n : Nat) : Int) := by
  have e : (2 : Int) ^ n = ((2 ^ n : Nat) : Int) := by rw [Int.natCast_pow]; rfl
  rw [Nat.min_eq_left (by simp only [IntKind.bits]; omega), e, Int.one_mul]
end AM.Try
end
/- The reference: without some entries; the smallest set. -/
section
namespace AM.Try
open Go AM AM.Duty
open Nat renaming reduceLT → sA, reduceAdd → sB, reduceMul → sC, reduceSub → sD, reduceLeDiff → sE, reduceEqDiff → sF, reduceBEq → sG
open Int renaming reduceAdd → sH, reduceSub → sI, reduceMul → sJ, reduceLT → sK, reduceLE → sL, reduceNeg → sM, reduceToNat → sN, reduceEq → sO
set_option maxHeartbeats 8000000
set_option maxRecDepth 100000
theorem woR_step {n : Nat} {es : List Entry} {j : Nat} (h : j < es.length) : woR (n / 2 ^ j) (es.drop j) = if n / 2 ^ j % 2 = 0 then getE es j :: woR (n / 2 ^ (j + 1)) (es.drop (j + 1)) else woR (n / 2 ^ (j + 1)) (es.drop (j + 1)) := by
  rw [drop_getD (d := default) h, Nat.pow_succ, ← Nat.div_div_eq_div_mul]; rfl
theorem woR_end {n : Nat} {es : List Entry} {j : Nat} (h : es.length ≤ j) : woR (n / 2 ^ j) (es.drop j) = [] := by rw [List.drop_of_length_le h]; cases n / 2 ^ j <;> rfl
def wrS (n : Nat) (es : List Entry) (j : Nat) (acc : List Entry) : List Entry := if n / 2 ^ j % 2 = 0 then acc ++ [getE es j] else acc
theorem wr_next {n : Nat} {es acc : List Entry} {j : Nat} {R : List Entry} (h : j < es.length) (hc : acc.length ≤ j) (hw : acc ++ woR (n / 2 ^ j) (es.drop j) = R) : j + 1 ≤ es.length ∧ (wrS n es j acc).length ≤ j + 1 ∧ wrS n es j acc ++ woR (n / 2 ^ (j + 1)) (es.drop (j + 1)) = R := by
  rw [woR_step h] at hw
  unfold wrS
  split
  · rename_i hj; rw [if_pos hj] at hw; exact ⟨h, by simp; omega, by rw [← hw]; simp⟩
  · rename_i hj; rw [if_neg hj] at hw; exact ⟨h, by omega, hw⟩
theorem wr_in {n : Nat} {es acc : List Entry} {j : Nat} (h : ((n / 2 ^ j : Nat) : Int) % 2 = 0) : wrS n es j acc = acc ++ [getE es j] := if_pos (by omega)
theorem wr_out {n : Nat} {es acc : List Entry} {j : Nat} (h : ¬ ((n / 2 ^ j : Nat) : Int) % 2 = 0) : wrS n es j acc = acc := if_neg (by omega)
theorem c51 (a : Acc) (n : Nat) (hl2 : a.entries.length ≤ 16) : PCall Go.Proofs.Try.prog 51 [avA a, i64 n] (avA (withoutR a n)) := by
  refine pcall_mk (v := []) (q := []) (N := 33) (rs := [.cell 4 25]) Go.Proofs.Try.func51 rfl rfl rfl rfl rfl ?_
  refine awp_seq_k fun K1 hK1 => ?_
  refine awp_ops ?_
  simp (disch := omega) only [amL, amT, sA, sB, sF, ↓reduceIte]
  refine hK1 _ ?_
  refine awp_seq_k fun K2 hK2 => ?_
  refine awp_ops ?_
  simp (disch := omega) only [amL, amT, sA, sB, sF, ↓reduceIte]
  refine hK2 _ ?_
  refine awp_seq_k fun K3 hK3 => ?_
  refine awp_ops ?_
  simp (disch := omega) only [amL, amT, sA, sB, ↓reduceIte, reduceCtorEq]
  refine hK3 _ ?_
  refine awp_seq_k fun K4 hK4 => ?_
  refine awp_seq_k fun K5 hK5 => ?_
  refine awp_ops ?_
  simp (disch := omega) only [amL, sA]
  refine hK5 _ ?_
  refine awp_block ?_
  refine awp_adoptC' 30 5 5 5 (by decide) rfl rfl rfl ?_
  refine awp_loop_k (α := Nat × List Entry) (fun x => ⟨T [(1, i64 (n : Int)), (2, .ptr 2 0), (4, .ptr 4 0), (5, .ptr 5 0), (6, i64 (x.1 : Int))], O [(5, .cells [i64 a.last, i64 a.interest, i64 a.bond, i64 a.purse, .p (.sl (a.rates.map encR)), .own 30 x.2.length]), (30, .arr 5 (x.2.map encE)), (2, .cells (cA a)), (4, .cells [i64 0, i64 0, i64 0, i64 0, .p (.val (.slice none 0 0)), .p (.val (.slice none 0 0))])]⟩) (fun x => a.entries.length - x.1) (fun x => x.1 ≤ a.entries.length ∧ x.2.length ≤ x.1 ∧ x.2 ++ woR (n / 2 ^ x.1) (a.entries.drop x.1) = woR n a.entries) (0, []) ?_ ?_ (fun x hx6 K6 hK6 => ?_)
  · exact ⟨by omega, by simp, by simp⟩
  · refine le_mk ?_ ?_ ?_ ?_ <;> (try simp (disch := omega) only [amL, sF, sG, ↓reduceIte, reduceCtorEq])
  obtain ⟨j, acc⟩ := x; dsimp only at hx6 ⊢; obtain ⟨hj, hc, hw⟩ := hx6
  refine awp_seq_k fun K7 hK7 => ?_
  refine awp_seq_k fun K8 hK8 => ?_
  refine awp_ops ?_
  simp (disch := omega) only [amL, amT, sA, sF, ↓reduceIte, reduceCtorEq]
  refine hK8 _ ?_
  refine awp_cond rfl (fun h => ?_) (fun h => ?_)
  ·first
   | exact Bool.noConfusion h
   |skip
    try simp only [decide_eq_true_eq] at h
    refine awp_skip ?_
    refine hK7 _ ?_
    refine awp_seq_k fun K9 hK9 => ?_
    refine awp_block ?_
    refine awp_seq_k fun K10 hK10 => ?_
    refine awp_ops ?_
    simp (disch := omega) only [wrapU, shrN, amL, amT, sA, sF, sO, ↓reduceIte]
    refine hK10 _ ?_
    refine awp_cond rfl (fun h => ?_) (fun h => ?_)
    ·first
     | exact Bool.noConfusion h
     |skip
      try simp only [decide_eq_true_eq] at h
      refine awp_any2 (by kernel_rfl) (by kernel_rfl) ?_
      simp (disch := omega) only [encE_getD, amL, amT, sA, sB, sC, sE, sF, ↓reduceIte, reduceCtorEq]
      refine hK9 _ ?_
      refine awp_ops ?_
      simp (disch := omega) only [amL, amT, sA, sF, ↓reduceIte]
      refine hK6 (j+1, wrS n a.entries j acc) _ ?_ ?_ (le_mk ?_ ?_ ?_ ?_)
      all_goals (try simp (disch := omega) only [amL, sF, sG, ↓reduceIte])
      all_goals first | omega | exact wr_next (by omega) hc hw | (rw [wr_out (by assumption)]; exact ⟨rfl, rfl⟩) | (rw [wr_in (by assumption)]; refine ⟨?_, ?_⟩ <;> simp; done) | (omega)
    ·first
     | exact Bool.noConfusion h
     |skip
      try simp only [decide_eq_false_iff_not] at h
      refine awp_skip ?_
      refine hK9 _ ?_
      refine awp_ops ?_
      simp (disch := omega) only [amL, amT, sA, sF, ↓reduceIte]
      refine hK6 (j+1, wrS n a.entries j acc) _ ?_ ?_ (le_mk ?_ ?_ ?_ ?_)
      all_goals (try simp (disch := omega) only [amL, sF, sG, ↓reduceIte])
      all_goals first | omega | exact wr_next (by omega) hc hw | (rw [wr_out (by assumption)]; exact ⟨rfl, rfl⟩) | (rw [wr_in (by assumption)]; refine ⟨?_, ?_⟩ <;> simp; done) | (omega)
  ·first
   | exact Bool.noConfusion h
   |skip
    try simp only [decide_eq_false_iff_not] at h
    refine awp_exit ?_
    refine hK4 _ ?_
    refine awp_seq_k fun K11 hK11 => ?_
    refine awp_ops ?_
    simp (disch := omega) only [amL, amT, sB, sF, ↓reduceIte]
    refine hK11 _ ?_
    refine awp_ret ?_
    try simp (disch := omega) only [amL, amT, sB, sF, ↓reduceIte]
    rw [woR_end (by omega), List.append_nil] at hw; rw [List.take_of_length_le (by simp), hw]; rfl
end AM.Try
end
/- The laws' own plays. -/
section
namespace AM.Try
open Go AM AM.Duty
open Nat renaming reduceLT → sA, reduceAdd → sB, reduceMul → sC, reduceSub → sD, reduceLeDiff → sE, reduceEqDiff → sF, reduceBEq → sG
open Int renaming reduceAdd → sH, reduceSub → sI, reduceMul → sJ, reduceLT → sK, reduceLE → sL, reduceNeg → sM, reduceToNat → sN, reduceEq → sO
set_option maxHeartbeats 8000000
set_option maxRecDepth 100000
def readyS (a : Acc) : Bool := thinS a && decide (faultS a = 0)
theorem c46 (a : Acc) : PCall Go.Proofs.Try.prog 46 [avA a] (bl (readyS a)) := by
  refine pcall_mk (v := []) (q := []) (N := 10) (rs := [.tmp 2]) Go.Proofs.Try.func46 rfl rfl rfl rfl rfl ?_
  cases hth : thinS a <;> by_cases hf : faultS a = 0
  all_goals try obtain ⟨hl1, hl2⟩ := thin_len hth
  all_goals
    refine awp_seq_k fun K1 hK1 => ?_
    refine awp_ops ?_
    simp (disch := omega) only [amL, sA, ↓reduceIte]
    refine hK1 _ ?_
    refine awp_seq_k fun K2 hK2 => ?_
    refine awp_ops ?_
    simp (disch := omega) only [amL, amT, sA, sB, sF, ↓reduceIte]
    repeat' first | (refine EG_dec (fun h => ?_) (fun h => ?_) <;> simp (disch := omega) only [h, ne_eq, hth, hf, amL, amT, sA, sB, sC, sD, sE, sF, sG, sH, sI, sJ, sK, sL, sM, sN, sO, ↓reduceIte, reduceCtorEq]) | (refine EG_cases (fun h => ?_) (fun h => ?_) <;> simp (disch := omega) only [h, ne_eq, hth, hf, amL, amT, sA, sB, sC, sD, sE, sF, sG, sH, sI, sJ, sK, sL, sM, sN, sO, ↓reduceIte, reduceCtorEq]) | (refine EC_intro (by kernel_rfl) rfl (c19t a) (by first | exact .inl rfl | exact .inr (.inl rfl)) ?_ ; simp (disch := omega) only [hth, amL, amT, sA, sB, sF, ↓reduceIte]) | (refine EC_intro (by kernel_rfl) rfl (c24 a (by omega) (by omega)) (by first | exact .inl rfl | exact .inr (.inl rfl)) ?_ ; simp (disch := omega) only [hf, amL, amT, sA, sF, ↓reduceIte])
    all_goals
     skip
     refine hK2 _ ?_
     refine awp_ret ?_
     try simp (disch := omega) only [amL, ↓reduceIte]
     all_goals first | (simp [readyS, hth, hf]; done) | (omega)
def oc4R (x y z w : Option AV) : Option AV := match x, y, z, w with | some a, some b, some c, some d => some (.tup [a, b, c, d]) | _, _, _, _ => none
theorem resVars_4 {P : Program} {s : St} {x y z w : ResultVar} : (resVars P s [x, y, z, w]).map resOf = oc4R (resVar P s x) (resVar P s y) (resVar P s z) (resVar P s w) := by
  simp only [resVars]
  cases resVar P s x <;> cases resVar P s y <;> cases resVar P s z <;> cases resVar P s w <;> rfl
theorem oc4R_some {x y z w : AV} : oc4R (some x) (some y) (some z) (some w) = some (.tup [x, y, z, w]) := rfl
def unitsN (a : Acc) (n : Int) : List Int := nthS a.entries (n % sizes a.entries)
def playN (a : Acc) (n : Int) : AV := .tup [isl (unitsN a n), if isTruth a (unitsN a n) = true then isl (debtsS a (unitsN a n) []).1 else nilS, bl (isTruth a (unitsN a n)), bl true]
theorem sizes_pos {a : Acc} (hf : faultS a = 0) : 1 ≤ sizes a.entries := by
  have h := (sizes_lt (valid_small hf) (Nat.le_refl _)).1
  rwa [List.take_length] at h
theorem c47 (a : Acc) (n : Int) (hf : faultS a = 0) (hth : thinS a = true) (hin : AccIn a) (h0 : 0 ≤ n) (_ : n ≤ 1000000) : PCall Go.Proofs.Try.prog 47 [avA a, i64 n] (playN a n) := by
  have hp : (playN a n).isP = true := by unfold playN; split <;> rfl
  refine pcall_mk (v := []) (q := []) (N := 59) (rs := [.tmp 4, .tmp 5, .tmp 6, .tmp 7]) Go.Proofs.Try.func47 rfl rfl rfl rfl hp ?_
  obtain ⟨hl1, hl2⟩ := thin_len hth
  have hin' := in_of hin
  have hsm := valid_small hf
  have hsz := sizes_nat hf
  have hs1 := sizes_pos hf
  have hmo := mod_bound (m := n) hs1
  have htl : (unitsN a n).length = a.entries.length := nth_len _ _
  have hls : listedS a.entries (unitsN a n) = true := by rw [← listed_eq]; exact nth_listed (lo_le hf)
  have hla := last_in hf
  have hm : ((a.last + 1).toNat : Int) = a.last + 1 := Int.toNat_of_nonneg (by omega)
  have hdl := debts_full (a := a) (unitsN a n) []
  have pA := playA_eq a (unitsN a n)
  have c73n : PCall Go.Proofs.Try.prog 73 [avA a, i64 (n % sizes a.entries)] (isl (unitsN a n)) := c73 a _ hsm hmo.1 (by omega)
  cases hd : (debtsS a (unitsN a n) []).2
  all_goals
    have hpn : playN a n = .tup [isl (unitsN a n), if (debtsS a (unitsN a n) []).2 = true then isl (debtsS a (unitsN a n) []).1 else nilS, bl (debtsS a (unitsN a n) []).2, bl true] := rfl
    rw [hd] at hpn
    rw [hpn]
  all_goals
    refine awp_seq_k fun K1 hK1 => ?_
    refine awp_ops ?_
    simp (disch := omega) only [amL, sA, sB, ↓reduceIte]
    refine hK1 _ ?_
    refine awp_seq_k fun K2 hK2 => ?_
    refine awp_any2 (by kernel_rfl) (by kernel_rfl) ?_
    simp (disch := omega) only [amL, amT, sA, sB, sF, ↓reduceIte, reduceCtorEq]
    repeat' first | (refine EC_intro (by kernel_rfl) rfl (c50 a hsm) (by first | exact .inl rfl | exact .inr (.inl rfl)) ?_ ; simp (disch := omega) only [amL, amT, sA, sF, ↓reduceIte]) | (refine EC_intro (by kernel_rfl) rfl (c73n) (by first | exact .inl rfl | exact .inr (.inl rfl)) ?_ ; simp (disch := omega) only [amL, sA, ↓reduceIte])
    refine hK2 _ ?_
    refine awp_seq_k fun K3 hK3 => ?_
    refine awp_ops ?_
    simp (disch := omega) only [amL, amT, sA, sB, sF, ↓reduceIte]
    repeat' first | (refine EC_intro (by kernel_rfl) rfl (PCall.of_nil 2 rfl (c27 a _ [] (fit_nth hf _) (by decide))) (by first | exact .inl rfl | exact .inr (.inl rfl)) ?_ ; simp (disch := omega) only [hd, amL, sA, sF, ↓reduceIte])
    refine hK3 _ ?_
    refine awp_seq_k fun K4 hK4 => ?_
    refine awp_ops ?_
    simp (disch := omega) only [amL, amT, sA, sB, sF, ↓reduceIte]
    repeat' first | (refine EC_intro (by kernel_rfl) rfl (c22 a (by omega) (by omega)) (by first | exact .inl rfl | exact .inr (.inl rfl)) ?_ ; simp (disch := omega) only [amL, sA, sF, ↓reduceIte]) | (refine EC_intro (by kernel_rfl) rfl (c23 _ (by omega)) (by first | exact .inl rfl | exact .inr (.inl rfl)) ?_ ; simp (disch := omega) only [amL, sF, ↓reduceIte]) | (refine EC_intro (by kernel_rfl) rfl (c21 a (unitsN a n) (by omega) (by omega) (by omega) hin') (by first | exact .inl rfl | exact .inr (.inl rfl)) ?_ ; simp (disch := omega) only [pA, hf, hls, hd, amL, sA, sF, ↓reduceIte])
    refine hK4 _ ?_
    refine awp_seq_k fun K5 hK5 => ?_
    refine awp_ops ?_
    simp (disch := omega) only [hm, hdl, amL, amT, sA, sF, sO, ↓reduceIte, reduceCtorEq]
    repeat' first | (refine EG_dec (fun h => ?_) (fun h => ?_) <;> simp (disch := omega) only [h, pA, hf, hls, hd, ne_eq, hm, resVars_4, oc4R_some, hdl, amL, amT, sA, sB, sC, sD, sE, sF, sG, sH, sI, sJ, sK, sL, sM, sN, sO, ↓reduceIte, reduceCtorEq]) | (refine EG_cases (fun h => ?_) (fun h => ?_) <;> simp (disch := omega) only [h, pA, hf, hls, hd, ne_eq, hm, resVars_4, oc4R_some, hdl, amL, amT, sA, sB, sC, sD, sE, sF, sG, sH, sI, sJ, sK, sL, sM, sN, sO, ↓reduceIte, reduceCtorEq])
    all_goals
     skip
     refine hK5 _ ?_
     refine awp_ret ?_
     try simp (disch := omega) only [resVars_4, oc4R_some, amL, sF, ↓reduceIte]
     all_goals first | rfl | (omega)
end AM.Try
end
/- Plain laws: truths, bounds, plays of two accounts. -/
section
namespace AM.Try
open Go AM AM.Duty
open Nat renaming reduceLT → sA, reduceAdd → sB, reduceMul → sC, reduceSub → sD, reduceLeDiff → sE, reduceEqDiff → sF, reduceBEq → sG
open Int renaming reduceAdd → sH, reduceSub → sI, reduceMul → sJ, reduceLT → sK, reduceLE → sL, reduceNeg → sM, reduceToNat → sN, reduceEq → sO
def leL : List Int → List Int → Prop
  | [], [] => True
  | a :: l, b :: m => a ≤ b ∧ leL l m
  | _, _ => False
theorem leL_get : ∀ {d e : List Int} {k : Nat}, leL d e → d.getD k 0 ≤ e.getD k 0
  | [], [], _, _ => by simp
  | x :: d, y :: e, 0, h => h.1
  | x :: d, y :: e, k + 1, h => by simpa using leL_get (k := k) h.2
  | [], _ :: _, _, h => h.elim
  | _ :: _, [], _, h => h.elim
theorem int_mono {i j d e : Int} (h0 : 0 ≤ i) (h1 : i ≤ j) (h2 : d ≤ e) : intS i d ≤ intS j e := by
  unfold intS
  by_cases hd : d ≤ 0
  · rw [if_pos hd]; split
    · omega
    · have : 0 ≤ e * j := Int.mul_nonneg (by omega) (by omega)
      omega
  · rw [if_neg hd, if_neg (by omega)]
    have h3 : d * i ≤ e * j := Int.mul_le_mul h2 h1 h0 (by omega)
    omega
end AM.Try
end
/- Plain laws: an account that is multiplied; a further statement. -/
section
namespace AM.Try
open Go AM AM.Duty
open Nat renaming reduceLT → sA, reduceAdd → sB, reduceMul → sC, reduceSub → sD, reduceLeDiff → sE, reduceEqDiff → sF, reduceBEq → sG
open Int renaming reduceAdd → sH, reduceSub → sI, reduceMul → sJ, reduceLT → sK, reduceLE → sL, reduceNeg → sM, reduceToNat → sN, reduceEq → sO
theorem intS_zero (d : Int) : intS 0 d = 0 := by unfold intS; split <;> omega
theorem dayF_app {rate day : Int} {e : Entry} {u : Int} : ∀ {es : List Entry} {t : List Int} {w : Wk}, t.length = es.length → dayF rate day (es ++ [e]) (t ++ [u]) w = stepE rate day e u (dayF rate day es t w)
  | [], [], w, _ => rfl
  | e :: es, u :: t, w, h => by
    simp only [List.cons_append, dayF]
    exact dayF_app (by simpa using h)
  | [], _ :: _, _, h => by simp at h
  | _ :: _, [], _, h => by simp at h
theorem dayS_nil {a : Acc} {t : List Int} {day : Nat} {w : Wk} : dayS a t [] day w = dayF (ratedX a.rates (day + 1)) day a.entries t (dayI a w) := by
  unfold dayS; dsimp only; rw [if_neg (by simp)]
theorem st_listed {e : Entry} (h : e.lo = 0 ∧ e.hi = 0) : ∀ {es : List Entry} {u : List Int}, listedS (es ++ [e]) u = true ↔ ∃ t, u = t ++ [0] ∧ listedS es t = true
  | [], [] => by simp [listedS]
  | [], [x] => by
    simp only [List.nil_append, listedS, Bool.and_true, inB, Bool.and_eq_true, decide_eq_true_eq, h.1, h.2]
    constructor
    · intro hx; exact ⟨[], by simp; omega, rfl⟩
    · rintro ⟨t, e, ht⟩
      cases t with
      | nil => simp at e; omega
      | cons _ _ => cases ht
  | [], x :: y :: u => by
    simp only [List.nil_append, listedS, Bool.and_false, Bool.false_eq_true, false_iff]
    rintro ⟨t, e, ht⟩
    cases t with
    | nil => simp at e
    | cons _ _ => cases ht
  | f :: es, [] => by simp [listedS]
  | f :: es, x :: u => by
    simp only [List.cons_append, listedS, Bool.and_eq_true]
    rw [st_listed h]
    constructor
    · rintro ⟨h1, t, e, ht⟩
      exact ⟨x :: t, by rw [e]; rfl, by simp only [listedS, h1, ht, Bool.and_self]⟩
    · rintro ⟨t, e, ht⟩
      cases t with
      | nil => simp only [List.nil_append, List.cons.injEq] at e; simp [listedS] at ht
      | cons y t =>
        simp only [List.cons_append, List.cons.injEq] at e
        simp only [listedS, Bool.and_eq_true] at ht
        exact ⟨by rw [e.1]; exact ht.1, t, e.2, ht.2⟩
end AM.Try
end
/- The law of the fewest payments. -/
section
namespace AM.Try
open Go AM AM.Duty
open Nat renaming reduceLT → sA, reduceAdd → sB, reduceMul → sC, reduceSub → sD, reduceLeDiff → sE, reduceEqDiff → sF, reduceBEq → sG
open Int renaming reduceAdd → sH, reduceSub → sI, reduceMul → sJ, reduceLT → sK, reduceLE → sL, reduceNeg → sM, reduceToNat → sN, reduceEq → sO
set_option maxHeartbeats 8000000
set_option maxRecDepth 100000
theorem bv_nat {b n : Nat} (h : n < 2 ^ b) : (BitVec.ofInt b (n : Int)).toNat = n := by
  rw [BitVec.ofInt_natCast, BitVec.toNat_ofNat, Nat.mod_eq_of_lt h]
end AM.Try
end
/- The abstract machine, part 46: functions whose result is a new struct. -/
section
namespace AM
open Go
def viewFL (os : Nat → Option AO) : List AV → Option (List AV)
  | [] => some []
  | x :: r => match viewF 0 os x, viewFL os r with | some y, some ys => some (y :: ys) | _, _ => none
theorem viewFL_nil {os : Nat → Option AO} : viewFL os [] = some [] := rfl
theorem viewFL_cons {os : Nat → Option AO} {x y : AV} {r ys : List AV} (h1 : viewF 0 os x = some y) (h2 : viewFL os r = some ys) : viewFL os (x :: r) = some (y :: ys) := by simp only [viewFL, h1, h2]
theorem viewFL_get {os : Nat → Option AO} : ∀ {l l' : List AV}, viewFL os l = some l' → l'.length = l.length ∧ ∀ (i : Nat) (y : AV), l'[i]? = some y → ∃ x, l[i]? = some x ∧ viewF 0 os x = some y
  | [], l', h => by simp only [viewFL, Option.some.injEq] at h; subst h; exact ⟨rfl, fun i y hy => by simp at hy⟩
  | x :: r, l', h => by
    simp only [viewFL] at h
    cases h1 : viewF 0 os x with
    | none => simp [h1] at h
    | some y =>
      cases h2 : viewFL os r with
      | none => simp [h1, h2] at h
      | some ys =>
        simp only [h1, h2, Option.some.injEq] at h
        subst h
        obtain ⟨h3, h4⟩ := viewFL_get h2
        refine ⟨by simp [h3], fun i z hz => ?_⟩
        cases i with
        | zero => simp at hz; subst hz; exact ⟨x, by simp, h1⟩
        | succ i => simpa using h4 i z (by simpa using hz)
def RetFC (P : Program) (i : Nat) (ty : TypeId) (res : AV) : AEx → St → Prop
  | .exit _, _ => False
  | _, s => ∃ n off g cs xs ys, s.t i = .ptr n off ∧ (tyOf P ty).agg = some g ∧ s.o n = some (.cells cs) ∧ takeCells g (tyOf P ty).sz (cs.drop off) = some (.agg xs) ∧ viewFL s.o xs = some ys ∧ res = .agg ys
theorem RetFC_ret {P : Program} {i : Nat} {ty : TypeId} {res : AV} {s : St} : RetFC P i ty res .ret s = ∃ n off g cs xs ys, s.t i = .ptr n off ∧ (tyOf P ty).agg = some g ∧ s.o n = some (.cells cs) ∧ takeCells g (tyOf P ty).sz (cs.drop off) = some (.agg xs) ∧ viewFL s.o xs = some ys ∧ res = .agg ys := rfl
theorem fcallc_mk {v q : List Nat} {P : Program} {f : FuncId} {fn : Func} {body : Code} {args : List AV} {res : AV} {N i : Nat} {ty : TypeId} (hf : P.funcs[f]? = some fn) (hb : fn.body = some body) (hN : fn.ntmps = N) (hi : fn.results.toList = [.cell i ty]) (hargs : args.all AV.isP = true) (hres : res.isP = true)
    (h : AWP P ⟨⟨none, fun _ => False⟩, 0, v, q⟩ N body ⟨T (ixs 0 args), O []⟩ (RetFC P i ty res)) : FCall P f args res := by
  subst hN
  rw [← init_ixs] at h
  refine ⟨hres, fun θ M w vs hM hsz hrel => ?_⟩
  refine calls_of_wp hf hb ((wpIn_wide (n := 0)).1 ?_)
  have hH : SRel 0 w.heap.size (fun _ => False) θ M w (Hp fun _ => none) a0 :=
    ⟨Nat.zero_le _, fun _ => .undef _, (fun n o hn => by cases hn), (fun n o hn => by cases hn), (fun n m hn => by cases hn), Nat.le_refl _, hM, ⟨fun _ => AV.lives_undef _, (fun m o hm => by cases hm)⟩⟩
  have h0 := hH.start (fn := fn) hsz hrel (fun i x hx => lives_isP _ (List.all_eq_true.1 hargs x (List.mem_of_getElem? hx)))
  refine wpIn_mono (h _ _ θ M w _ h0) ?_
  rintro e a' w' ⟨ae, st', rfl, hr, ⟨θ', M', hs', hk, ht, hm⟩, hd⟩
  have hoth : Others st' θ' (fun b => b < w.heap.size) := others_blk hs' (fun _ h => h) (fun _ h => h)
  have key : ∀ n off g cs xs ys, st'.t i = .ptr n off → (tyOf P ty).agg = some g → st'.o n = some (.cells cs) → takeCells g (tyOf P ty).sz (cs.drop off) = some (.agg xs) → viewFL st'.o xs = some ys → res = .agg ys →
      ∃ v, (results fn a'.tmps).run P w' = .ok v w' ∧ ∃ v', Ending.returned v = .returned v' ∧ ARel θ (fun b => b < w.heap.size) w' res v' ∧ Keeps (fun b => w.heap.size ≤ b) w w' := by
    intro n off g cs xs ys k1 k2 k3 k4 k5 k6
    have hv := rel_ptr (hs'.tm i) k1
    have hc := (cellsAt_obj hs' k3).drop off
    rw [Nat.zero_add] at hc
    obtain ⟨v, hrun, hrel⟩ := hc.load k2 k4
    have hvr : ARel θ' (fun b => b < w.heap.size) w' res v := by
      subst k6
      obtain ⟨hl, hg⟩ := viewFL_get k5
      cases hrel with
      | agg _ vs hs hone hr =>
        refine .agg ys vs (by rw [hl]; exact hs) (fun i hi => hone i (by rw [← hl]; exact hi)) (fun i z hz => ?_)
        obtain ⟨x, h1, h2⟩ := hg i z hz
        exact (viewF_rel hs' hoth (hr i x h1) h2).1
    have hrr : (results fn a'.tmps).run P w' = .ok v w' := by
      have hus' : (fn.results.mapM (resSem a'.tmps)).run P w' = .ok #[v] w' := by
        rw [Array.mapM_eq_mapM_toList, Sem.run_map, hi]
        simp [resSem, hv, asAddr, hrun]
      rw [results_eq]
      simp only [Sem.run_bind, hus', Result.andThen_ok, Sem.run_pure]
      rfl
    exact ⟨v, hrr, _, rfl, hvr.nameless θ hres, hk.mono (fun b hb => hb.elim id False.elim)⟩
  cases ae with
  | normal =>
    obtain ⟨n, off, g, cs, xs, ys, k1, k2, k3, k4, k5, k6⟩ := hr
    exact ⟨hd, key n off g cs xs ys k1 k2 k3 k4 k5 k6⟩
  | ret =>
    obtain ⟨n, off, g, cs, xs, ys, k1, k2, k3, k4, k5, k6⟩ := hr
    exact ⟨hd, key n off g cs xs ys k1 k2 k3 k4 k5 k6⟩
  | exit j => exact hr.elim
def viewT (os : Nat → Option AO) : AV → Option AV
  | .p (.val v) => some (.p (.val v))
  | x => viewF 0 os x
theorem viewT_own {os : Nat → Option AO} {n len k : Nat} {es : List (List PV)} (h : os n = some (.arr k es)) (h1 : len ≤ es.length) (h2 : (es.all fun e => e.all PV.isVal) = true) : viewT os (.own n len) = some (.p (.sl (es.take len))) := by
  unfold viewT viewF; simp only [h]; rw [if_pos ⟨h1, Nat.zero_le _, h2⟩]
theorem viewT_rel {N B : Nat} {S : Nat → Prop} {θ : Nat → Loc} {M M2 : Nat → Prop} {w : World} {st : St} {a : Act} (h : SRel N B S θ M w st a) (ho : Others st θ M2) {x y : AV} {v : Value} (hv : ARel θ M w x v) (hy : viewT st.o x = some y) : ARel θ M2 w y v ∧ y.isP = true := by
  unfold viewT at hy
  split at hy
  · cases hy
    cases hv with
    | p _ _ h => exact ⟨.p _ _ (h.isVal rfl _ _), rfl⟩
  · exact viewF_rel h ho hv hy
def RetFT (i j : Nat) (res : AV) : AEx → St → Prop
  | .exit _, _ => False
  | _, s => ∃ x y, viewT s.o (s.t i) = some x ∧ viewT s.o (s.t j) = some y ∧ res = .tup [x, y]
theorem RetFT_normal {i j : Nat} {res : AV} {s : St} : RetFT i j res .normal s = ∃ x y, viewT s.o (s.t i) = some x ∧ viewT s.o (s.t j) = some y ∧ res = .tup [x, y] := rfl
theorem RetFT_ret {i j : Nat} {res : AV} {s : St} : RetFT i j res .ret s = ∃ x y, viewT s.o (s.t i) = some x ∧ viewT s.o (s.t j) = some y ∧ res = .tup [x, y] := rfl
theorem fcallt_mk {v q : List Nat} {P : Program} {f : FuncId} {fn : Func} {body : Code} {args : List AV} {res : AV} {N i j : Nat} (hf : P.funcs[f]? = some fn) (hb : fn.body = some body) (hN : fn.ntmps = N) (hi : fn.results.toList = [.tmp i, .tmp j]) (hargs : args.all AV.isP = true) (hres : res.isP = true)
    (h : AWP P ⟨⟨none, fun _ => False⟩, 0, v, q⟩ N body ⟨T (ixs 0 args), O []⟩ (RetFT i j res)) : FCall P f args res := by
  subst hN
  rw [← init_ixs] at h
  refine ⟨hres, fun θ M w vs hM hsz hrel => ?_⟩
  refine calls_of_wp hf hb ((wpIn_wide (n := 0)).1 ?_)
  have hH : SRel 0 w.heap.size (fun _ => False) θ M w (Hp fun _ => none) a0 :=
    ⟨Nat.zero_le _, fun _ => .undef _, (fun n o hn => by cases hn), (fun n o hn => by cases hn), (fun n m hn => by cases hn), Nat.le_refl _, hM, ⟨fun _ => AV.lives_undef _, (fun m o hm => by cases hm)⟩⟩
  have h0 := hH.start (fn := fn) hsz hrel (fun i x hx => lives_isP _ (List.all_eq_true.1 hargs x (List.mem_of_getElem? hx)))
  refine wpIn_mono (h _ _ θ M w _ h0) ?_
  rintro e a' w' ⟨ae, st', rfl, hr, ⟨θ', M', hs', hk, ht, hm⟩, hd⟩
  have hoth : Others st' θ' (fun b => b < w.heap.size) := others_blk hs' (fun _ h => h) (fun _ h => h)
  have key : ∀ x y, viewT st'.o (st'.t i) = some x → viewT st'.o (st'.t j) = some y → res = .tup [x, y] →
      ∃ v, (results fn a'.tmps).run P w' = .ok v w' ∧ ∃ v', Ending.returned v = .returned v' ∧ ARel θ (fun b => b < w.heap.size) w' res v' ∧ Keeps (fun b => w.heap.size ≤ b) w w' := by
    intro x y k1 k2 k3
    have r1 := (viewT_rel hs' hoth (hs'.tm i) k1).1
    have r2 := (viewT_rel hs' hoth (hs'.tm j) k2).1
    have hvr : ARel θ' (fun b => b < w.heap.size) w' res (.tuple #[a'.tmps.getD i undef, a'.tmps.getD j undef]) := by
      subst k3
      refine .tup _ _ rfl (fun k z hz => ?_)
      match k, hz with
      | 0, hz => cases hz; exact r1
      | 1, hz => cases hz; exact r2
    have hrr : (results fn a'.tmps).run P w' = .ok (.tuple #[a'.tmps.getD i undef, a'.tmps.getD j undef]) w' := by
      have hus' : (fn.results.mapM (resSem a'.tmps)).run P w' = .ok #[a'.tmps.getD i undef, a'.tmps.getD j undef] w' := by
        rw [Array.mapM_eq_mapM_toList, Sem.run_map, hi]
        simp [resSem]
      rw [results_eq]
      simp only [Sem.run_bind, hus', Result.andThen_ok, Sem.run_pure]
      rfl
    exact ⟨_, hrr, _, rfl, hvr.nameless θ hres, hk.mono (fun b hb => hb.elim id False.elim)⟩
  cases ae with
  | normal =>
    obtain ⟨x, y, k1, k2, k3⟩ := hr
    exact ⟨hd, key x y k1 k2 k3⟩
  | ret =>
    obtain ⟨x, y, k1, k2, k3⟩ := hr
    exact ⟨hd, key x y k1 k2 k3⟩
  | exit j => exact hr.elim
end AM
end
/- The law's own copy of an account is new. -/
section
namespace AM.Try
open Go AM AM.Duty
open Nat renaming reduceLT → sA, reduceAdd → sB, reduceMul → sC, reduceSub → sD, reduceLeDiff → sE, reduceEqDiff → sF, reduceBEq → sG
open Int renaming reduceAdd → sH, reduceSub → sI, reduceMul → sJ, reduceLT → sK, reduceLE → sL, reduceNeg → sM, reduceToNat → sN, reduceEq → sO
set_option maxHeartbeats 8000000
set_option maxRecDepth 100000
theorem viewF_i {os : Nat → Option AO} {n : Int} : viewF 0 os (i64 n) = some (i64 n) := rfl
theorem encE_isVal (l : List Entry) : ((l.map encE).all fun e => e.all PV.isVal) = true := by
  rw [List.all_eq_true]
  intro x hx
  obtain ⟨n, _, rfl⟩ := List.mem_map.1 hx
  rfl
theorem encR_isVal (l : List Rate) : ((l.map encR).all fun e => e.all PV.isVal) = true := by
  rw [List.all_eq_true]
  intro x hx
  obtain ⟨n, _, rfl⟩ := List.mem_map.1 hx
  rfl
theorem c22f (a : Acc) (h1 : a.rates.length < 1000000) (h2 : a.entries.length < 1000000) : FCall Go.Proofs.Try.prog 22 [avA a] (avA a) := by
  refine fcallc_mk (v := []) (q := []) (N := 69) (i := 2) (ty := 35) Go.Proofs.Try.func22 rfl rfl rfl rfl rfl ?_
  refine awp_seq_k fun K1 hK1 => ?_
  refine awp_ops ?_
  simp (disch := omega) only [amL, amT, sA, sB, sF, ↓reduceIte]
  refine hK1 _ ?_
  refine awp_seq_k fun K2 hK2 => ?_
  refine awp_ops ?_
  simp (disch := omega) only [amL, amT, sA, sB, sE, sF, ↓reduceIte, reduceCtorEq]
  refine hK2 _ ?_
  refine awp_seq_k fun K3 hK3 => ?_
  refine awp_seq_k fun K4 hK4 => ?_
  refine awp_ops ?_
  simp (disch := omega) only [amL, sA]
  refine hK4 _ ?_
  refine awp_block ?_
  refine awp_adoptC' 39 2 3 4 (by decide) rfl rfl rfl ?_
  refine awp_loop_k (α := Nat) (fun k => ⟨T [(1, .ptr 1 0), (2, .ptr 2 0), (3, .ptr 3 0), (4, i64 k)], O [(1, .cells (cA a)), (2, .cells [i64 0, i64 0, i64 0, i64 0, .p (.val (.slice none 0 0)), .p (.val (.slice none 0 0))]), (3, .cells [i64 a.last, i64 a.interest, i64 a.bond, i64 a.purse, .own 39 k, .p (.val (.slice none 0 0))]), (39, .arr 2 ((a.rates.take k).map encR))]⟩) (fun k => a.rates.length - k) (fun k => k ≤ a.rates.length) 0 ?_ ?_ (fun k hx5 K5 hK5 => ?_)
  · simp
  · refine le_mk ?_ ?_ ?_ ?_ <;> (try simp (disch := omega) only [amL, sF, sG, ↓reduceIte])
  skip
  refine awp_seq_k fun K6 hK6 => ?_
  refine awp_seq_k fun K7 hK7 => ?_
  refine awp_ops ?_
  simp (disch := omega) only [amL, amT, sA, sF, ↓reduceIte, reduceCtorEq]
  refine hK7 _ ?_
  refine awp_cond rfl (fun h => ?_) (fun h => ?_)
  ·first
   | exact Bool.noConfusion h
   |skip
    try simp only [decide_eq_true_eq] at h
    refine awp_skip ?_
    refine hK6 _ ?_
    refine awp_seq_k fun K8 hK8 => ?_
    refine awp_block ?_
    refine awp_any2 (by kernel_rfl) (by kernel_rfl) ?_
    simp (disch := omega) only [encR_getD, amL, amT, sA, sB, sC, sE, sF, ↓reduceIte, reduceCtorEq]
    refine hK8 _ ?_
    refine awp_ops ?_
    simp (disch := omega) only [amL, amT, sA, sF, ↓reduceIte]
    refine hK5 (k+1) _ ?_ ?_ (le_mk ?_ ?_ ?_ ?_)
    all_goals (try simp (disch := omega) only [amL, sF, sG, ↓reduceIte])
    all_goals first | omega | rw [take_snoc encR default (by omega)]
  ·first
   | exact Bool.noConfusion h
   |skip
    try simp only [decide_eq_false_iff_not] at h
    refine awp_exit ?_
    refine hK3 _ ?_
    refine awp_seq_k fun K9 hK9 => ?_
    refine awp_seq_k fun K10 hK10 => ?_
    refine awp_ops ?_
    simp (disch := omega) only [amL, sA]
    refine hK10 _ ?_
    refine awp_block ?_
    refine awp_adoptC' 66 5 3 5 (by decide) rfl rfl rfl ?_
    refine awp_loop_k (α := Nat) (fun j => ⟨T [(2, .ptr 2 0), (1, .ptr 1 0), (3, .ptr 3 0), (5, i64 j)], O [(1, .cells (cA a)), (2, .cells [i64 0, i64 0, i64 0, i64 0, .p (.val (.slice none 0 0)), .p (.val (.slice none 0 0))]), (3, .cells [i64 a.last, i64 a.interest, i64 a.bond, i64 a.purse, .own 39 k, .own 66 j]), (39, .arr 2 ((a.rates.take k).map encR)), (66, .arr 5 ((a.entries.take j).map encE))]⟩) (fun j => a.entries.length - j) (fun j => j ≤ a.entries.length) 0 ?_ ?_ (fun j hx11 K11 hK11 => ?_)
    · simp
    · refine le_mk ?_ ?_ ?_ ?_ <;> (try simp (disch := omega) only [amL, sF, sG, ↓reduceIte])
    skip
    refine awp_seq_k fun K12 hK12 => ?_
    refine awp_seq_k fun K13 hK13 => ?_
    refine awp_ops ?_
    simp (disch := omega) only [amL, amT, sA, sF, ↓reduceIte, reduceCtorEq]
    refine hK13 _ ?_
    refine awp_cond rfl (fun h => ?_) (fun h => ?_)
    ·first
     | exact Bool.noConfusion h
     |skip
      try simp only [decide_eq_true_eq] at h
      refine awp_skip ?_
      refine hK12 _ ?_
      refine awp_seq_k fun K14 hK14 => ?_
      refine awp_block ?_
      refine awp_seq_k fun K15 hK15 => ?_
      refine awp_ops ?_
      simp (disch := omega) only [encE_getD, amL, amT, sA, sB, sF, ↓reduceIte, reduceCtorEq]
      refine hK15 _ ?_
      refine awp_any2 (by kernel_rfl) (by kernel_rfl) ?_
      simp (disch := omega) only [amL, amT, sA, sB, sE, sF, ↓reduceIte, reduceCtorEq]
      repeat' first | (refine EC_intro (by kernel_rfl) rfl (c35 _ _) (by first | exact .inl rfl | exact .inr (.inl rfl)) ?_ ; simp (disch := omega) only [amL, amT, sA, sB, sC, sE, sF, ↓reduceIte, reduceCtorEq])
      refine hK14 _ ?_
      refine awp_ops ?_
      simp (disch := omega) only [amL, amT, sA, sF, ↓reduceIte]
      refine hK11 (j+1) _ ?_ ?_ (le_mk ?_ ?_ ?_ ?_)
      all_goals (try simp (disch := omega) only [amL, sF, sG, ↓reduceIte])
      all_goals first | omega | rw [take_snoc encE default (by omega)]
    ·first
     | exact Bool.noConfusion h
     |skip
      try simp only [decide_eq_false_iff_not] at h
      refine awp_exit ?_
      refine hK9 _ ?_
      refine awp_seq_k fun K16 hK16 => ?_
      refine awp_ops ?_
      simp (disch := omega) only [amL, amT, sB, sF, ↓reduceIte]
      refine hK16 _ ?_
      refine awp_ret ?_
      try simp (disch := omega) only [encE_getD, encR_getD, amL, amT, sA, sB, sC, sD, sE, sF, sG, sH, sI, sJ, sK, sL, sM, sN, sO, ↓reduceIte, reduceCtorEq]
      (have e : k = a.rates.length := by omega); (have e2 : j = a.entries.length := by omega); subst e e2; rw [List.take_length, List.take_length]; rw [RetFC_ret]; refine ⟨2, 0, _, _, _, _, rfl, (by simp only [amT]; rfl), rfl, (by simp only [amT]; rfl), viewFL_cons viewF_i (viewFL_cons viewF_i (viewFL_cons viewF_i (viewFL_cons viewF_i (viewFL_cons (viewF_own rfl (by simp) (encR_isVal _)) (viewFL_cons (viewF_own rfl (by simp) (encE_isVal _)) viewFL_nil))))), ?_⟩; rw [List.take_of_length_le (by simp), List.take_of_length_le (by simp)]
end AM.Try
end
/- The law of order. -/
section
namespace AM.Try
open Go AM AM.Duty
open Nat renaming reduceLT → sA, reduceAdd → sB, reduceMul → sC, reduceSub → sD, reduceLeDiff → sE, reduceEqDiff → sF, reduceBEq → sG
open Int renaming reduceAdd → sH, reduceSub → sI, reduceMul → sJ, reduceLT → sK, reduceLE → sL, reduceNeg → sM, reduceToNat → sN, reduceEq → sO
set_option maxHeartbeats 8000000
set_option maxRecDepth 100000
theorem valid_in {x : Acc} (hf : faultS x = 0) : ∀ e ∈ x.entries, inR e.lo = true ∧ inR e.hi = true := fun e he => by
  have h := isEntry_small (List.all_eq_true.1 (fault_zero hf).2.2.2.2.1 e he)
  simp only [inR, Bool.and_eq_true, decide_eq_true_eq]; omega
end AM.Try
end
/- The law of what is left out. -/
section
namespace AM.Try
open Go AM AM.Duty
open Nat renaming reduceLT → sA, reduceAdd → sB, reduceMul → sC, reduceSub → sD, reduceLeDiff → sE, reduceEqDiff → sF, reduceBEq → sG
open Int renaming reduceAdd → sH, reduceSub → sI, reduceMul → sJ, reduceLT → sK, reduceLE → sL, reduceNeg → sM, reduceToNat → sN, reduceEq → sO
set_option maxHeartbeats 8000000
set_option maxRecDepth 100000
theorem fBin_or {P : Program} {t : TypeId} {k : TK} {a b : Nat} (ha : a < 65536) (hb : b < 65536) : fBin P t .or k (.p (.val (.int .i64 (a : Int)))) (.p (.val (.int .i64 (b : Int)))) = some (.pure (i64 ((a ||| b : Nat) : Int))) := by
  have h2 : a ||| b < 2 ^ 16 := Nat.or_lt_two_pow ha hb
  have h1 : IntKind.i64.wrap (((BitVec.ofInt IntKind.i64.bits (a : Int) ||| BitVec.ofInt IntKind.i64.bits (b : Int)).toNat : Nat) : Int) = ((a ||| b : Nat) : Int) := by
    rw [BitVec.toNat_or, bv_nat (Nat.lt_of_lt_of_le ha (by decide)), bv_nat (Nat.lt_of_lt_of_le hb (by decide))]
    exact wrap64 (by omega) (by omega)
  show (binV .or (.int .i64 (a : Int)) (.int .i64 (b : Int))).map (fun v => Eff.pure (.p (.val v))) = _
  simp only [binV, bitsOp, if_true, h1, Option.map_some]
theorem fault_woR {a : Acc} (hf : faultS a = 0) (n : Nat) : faultS (withoutR a n) = 0 := by
  have hl := (fault_zero hf).2.1
  rw [← without_eq (by omega)]
  exact fault_wo hf _
end AM.Try
end
/- Plain laws: more interest, one more payment; what is charged in all. -/
section
namespace AM.Try
open Go AM AM.Duty
open Nat renaming reduceLT → sA, reduceAdd → sB, reduceMul → sC, reduceSub → sD, reduceLeDiff → sE, reduceEqDiff → sF, reduceBEq → sG
open Int renaming reduceAdd → sH, reduceSub → sI, reduceMul → sJ, reduceLT → sK, reduceLE → sL, reduceNeg → sM, reduceToNat → sN, reduceEq → sO
def stN (es : List Entry) : Nat → Nat
  | 0 => 0
  | k + 1 => if (getE es k).kind = 3 then stN es k ||| 2 ^ k else stN es k
theorem stN_test {es : List Entry} {i : Nat} : ∀ {k : Nat}, ((stN es k).testBit i = true ↔ i < k ∧ (getE es i).kind = 3)
  | 0 => by simp [stN]
  | k + 1 => by
    have ih := stN_test (es := es) (i := i) (k := k)
    simp only [stN]
    split
    · rename_i h
      rw [Nat.testBit_or, Nat.testBit_two_pow, Bool.or_eq_true, decide_eq_true_eq, ih]
      constructor
      · rintro (h1 | h1)
        · exact ⟨by omega, h1.2⟩
        · subst h1; exact ⟨by omega, h⟩
      · rintro ⟨h1, h2⟩
        by_cases e : k = i
        · exact .inr e
        · exact .inl ⟨by omega, h2⟩
    · rename_i h
      rw [ih]
      constructor
      · rintro ⟨h1, h2⟩; exact ⟨by omega, h2⟩
      · rintro ⟨h1, h2⟩
        refine ⟨?_, h2⟩
        by_cases e : i = k
        · subst e; exact absurd h2 h
        · omega
theorem stN_lt {es : List Entry} : ∀ {k : Nat}, stN es k < 2 ^ k
  | 0 => by simp [stN]
  | k + 1 => by
    have ih := stN_lt (es := es) (k := k)
    have h2 : 2 ^ k < 2 ^ (k + 1) := Nat.pow_lt_pow_right (by decide) (by omega)
    simp only [stN]
    split
    · exact Nat.or_lt_two_pow (by omega) h2
    · omega
theorem woR_mem : ∀ {es : List Entry} {n : Nat} {e : Entry}, e ∈ woR n es → ∃ i, i < es.length ∧ getE es i = e ∧ n.testBit i = false
  | [], _, _, h => by simp [woR] at h
  | f :: es, n, e, h => by
    simp only [woR] at h
    have step : e ∈ woR (n / 2) es → ∃ i, i < (f :: es).length ∧ getE (f :: es) i = e ∧ n.testBit i = false := fun h => by
      obtain ⟨i, h1, h2, h3⟩ := woR_mem h
      exact ⟨i + 1, by simp; omega, h2, by rw [Nat.testBit_succ]; exact h3⟩
    split at h
    · rename_i h0
      rcases List.mem_cons.1 h with rfl | h
      · exact ⟨0, by simp, rfl, by rw [Nat.testBit_zero]; simp [h0]⟩
      · exact step h
    · exact step h
def plainA (a : Acc) : Acc := withoutR a (stN a.entries a.entries.length)
def noSt (es : List Entry) : Prop := ∀ e ∈ es, e.kind ≠ 3
theorem plain_noSt (a : Acc) : noSt (plainA a).entries := fun e he => by
  obtain ⟨i, h1, h2, h3⟩ := woR_mem he
  intro hk
  rw [stN_test.2 ⟨h1, by rw [h2]; exact hk⟩] at h3; cases h3
def leU (w v : Wk) : Prop := w.debt ≤ v.debt ∧ w.units = v.units ∧ w.ok = v.ok
theorem step_leU {rate day : Int} {e : Entry} {u : Int} {w v : Wk} (hk : e.kind ≠ 3) (h : leU w v) : leU (stepE rate day e u w) (stepE rate day e u v) := by
  obtain ⟨h1, h2, h3⟩ := h
  unfold stepE leU
  split
  · exact ⟨h1, h2, h3⟩
  · split
    · exact ⟨by dsimp only; omega, by dsimp only; omega, h3⟩
    · split
      · exact ⟨by dsimp only; omega, h2, h3⟩
      · split
        · exact ⟨by dsimp only; omega, by dsimp only; omega, by dsimp only; rw [h2, h3]⟩
        · exact ⟨h1, h2, h3⟩
theorem day_leU {rate day : Int} : ∀ {es : List Entry} {t : List Int} {w v : Wk}, noSt es → leU w v → leU (dayF rate day es t w) (dayF rate day es t v)
  | [], t, w, v, _, h => by cases t <;> exact h
  | e :: es, [], w, v, _, h => h
  | e :: es, u :: us, w, v, hn, h => by
    simp only [dayF]
    exact day_leU (fun e he => hn e (by simp [he])) (step_leU (hn e (by simp)) h)
theorem debts_leU {a x : Acc} {t u : List Int} (hs : ∀ (day : Nat) w v, leU w v → leU (dayS a t [] day w) (dayS x u [] day v)) : ∀ (c day : Nat) w v, leU w v → leL (debtsF a t [] c day w).1 (debtsF x u [] c day v).1 ∧ (debtsF a t [] c day w).2 = (debtsF x u [] c day v).2
  | 0, _, _, _, h => ⟨trivial, h.2.2⟩
  | c + 1, day, w, v, h => by
    have h1 := hs day w v h
    have h2 := debts_leU hs c (day + 1) _ _ h1
    exact ⟨⟨h1.1, h2.1⟩, h2.2⟩
abbrev inA (a : Acc) (i : Int) : Acc := { a with interest := i }
theorem more_interest {a : Acc} (hn : noSt a.entries) (h0 : 0 ≤ a.interest) {i : Int} (hi : a.interest ≤ i) (t : List Int) : leL (debtsS a t []).1 (debtsS (inA a i) t []).1 ∧ (debtsS a t []).2 = (debtsS (inA a i) t []).2 := by
  refine debts_leU (fun day w v h => ?_) _ _ _ _ ⟨Int.le_refl _, rfl, rfl⟩
  rw [dayS_nil, dayS_nil]
  refine day_leU hn ⟨?_, h.2.1, h.2.2⟩
  have := int_mono h0 hi h.1
  simp only [dayI]
  have := h.1
  omega
abbrev paA (a : Acc) (k v : Int) : Acc := { a with entries := a.entries ++ [⟨1, k, 0, 0, v⟩] }
theorem more_paid {a : Acc} (hn : noSt a.entries) (h0 : 0 ≤ a.interest) {k v : Int} (hv : 0 ≤ v) {t : List Int} (ht : t.length = a.entries.length) : leL (debtsS (paA a k v) (t ++ [0]) []).1 (debtsS a t []).1 ∧ (debtsS (paA a k v) (t ++ [0]) []).2 = (debtsS a t []).2 := by
  refine debts_leU (fun day w v2 h => ?_) _ _ _ _ ⟨Int.le_refl _, rfl, rfl⟩
  rw [dayS_nil, dayS_nil]
  show leU (dayF _ _ (a.entries ++ [_]) (t ++ [0]) (dayI a w)) _
  rw [dayF_app ht]
  have h1 : leU (dayI a w) (dayI a v2) := by
    refine ⟨?_, h.2.1, h.2.2⟩
    have := int_mono h0 (Int.le_refl a.interest) h.1
    simp only [dayI]
    have := h.1
    omega
  have h2 := day_leU (rate := ratedX a.rates (day + 1)) (day := day) (t := t) hn h1
  generalize dayF (ratedX a.rates (day + 1)) day a.entries t (dayI a w) = w1 at h2 ⊢
  generalize dayF (ratedX a.rates (day + 1)) day a.entries t (dayI a v2) = v1 at h2 ⊢
  obtain ⟨g1, g2, g3⟩ := h2
  by_cases e : k = day
  · rw [step_1 e rfl]; exact ⟨by dsimp only; omega, g2, g3⟩
  · rw [step_other e]; exact ⟨g1, g2, g3⟩
theorem fault_paid {a : Acc} (hf : faultS a = 0) (hl : a.entries.length < 8) {k v : Int} (h0 : 0 ≤ k) (h1 : k ≤ a.last) (hv : 1 ≤ v) (hv2 : v ≤ 100000) : faultS (paA a k v) = 0 := by
  obtain ⟨z1, z2, z3, z4, z5, z6⟩ := fault_zero hf
  refine fault_of (a := paA a k v) z1 (by show (a.entries ++ _).length ≤ 8; simp; omega) z3 z4 ?_ ?_
  · show (a.entries ++ [_]).all (isEntry a.last) = true
    rw [List.all_append, z5]
    simp only [List.all_cons, List.all_nil, Bool.and_true, Bool.true_and, isEntry, inB]
    simp; omega
  · show sizes (a.entries ++ [_]) ≤ 1000
    unfold sizes at z6 ⊢
    rw [List.foldl_append]
    simpa using z6
theorem fault_inA {a : Acc} (hf : faultS a = 0) {i : Int} (h0 : 0 ≤ i) (h1 : i ≤ 200) : faultS (inA a i) = 0 := by
  obtain ⟨z1, z2, z3, z4, z5, z6⟩ := fault_zero hf
  refine fault_of (a := inA a i) z1 z2 ?_ z4 z5 z6
  simp only [inB, Bool.and_eq_true, decide_eq_true_eq] at z3 ⊢
  omega
theorem fault_many {a : Acc} (hl : 8 < a.entries.length) : faultS a = 3 := by unfold faultS; rw [if_pos (.inr hl)]
theorem leL_len : ∀ {d e : List Int}, leL d e → d.length = e.length
  | [], [], _ => rfl
  | x :: d, y :: e, h => by simp [leL_len h.2]
  | [], _ :: _, h => h.elim
  | _ :: _, [], h => h.elim
def conS (rs : List Rate) (e : Entry) (u : Int) : Int := if e.kind = 0 then u * ratedX rs (e.day.toNat + 1) else if 0 < e.kind then -(u * ratedX rs (e.day.toNat + 1) + e.pence) else 0
def sumS (rs : List Rate) : List Entry → List Int → Int
  | e :: es, u :: us => conS rs e u + sumS rs es us
  | _, _ => 0
def onDay (rs : List Rate) (day : Int) : List Entry → List Int → Int
  | e :: es, u :: us => (if e.day = day then conS rs e u else 0) + onDay rs day es us
  | _, _ => 0
theorem step_con {last : Int} {rs : List Rate} {day : Nat} {e : Entry} {u : Int} {w : Wk} (hv : isEntry last e = true) (hk : e.kind ≠ 3) (hu : inB u e.lo e.hi = true) : (stepE (ratedX rs (day + 1)) day e u w).debt = w.debt + (if e.day = day then conS rs e u else 0) := by
  by_cases hd : e.day = day
  · rw [if_pos hd]
    have hd2 : e.day.toNat = day := by omega
    unfold isEntry at hv
    simp only [inB, Bool.and_eq_true, decide_eq_true_eq] at hv hu
    unfold conS
    rw [hd2]
    by_cases k0 : e.kind = 0
    · rw [step_0 hd k0, if_pos k0]
    · rw [if_neg k0] at hv ⊢
      by_cases k1 : e.kind = 1
      · rw [if_pos k1] at hv
        simp only [Bool.and_eq_true, decide_eq_true_eq] at hv
        have : u = 0 := by omega
        rw [step_1 hd k1, if_pos (by omega), this]; simp only []; omega
      · rw [if_neg k1] at hv
        by_cases k2 : e.kind = 2
        · rw [if_pos k2] at hv
          simp only [Bool.and_eq_true, decide_eq_true_eq] at hv
          rw [step_2 hd k2, if_pos (by omega)]; simp only []; omega
        · rw [if_neg k2, if_neg hk] at hv
          simp at hv
  · rw [if_neg hd, step_other hd]; omega
theorem day_con {last : Int} {rs : List Rate} {day : Nat} : ∀ {es : List Entry} {t : List Int} {w : Wk}, es.all (isEntry last) = true → noSt es → listedS es t = true → (dayF (ratedX rs (day + 1)) day es t w).debt = w.debt + onDay rs day es t
  | [], [], w, _, _, _ => by simp [dayF, onDay]
  | e :: es, u :: us, w, hv, hn, hl => by
    simp only [List.all_cons, Bool.and_eq_true] at hv
    simp only [listedS, Bool.and_eq_true] at hl
    simp only [dayF, onDay]
    rw [day_con hv.2 (fun e he => hn e (by simp [he])) hl.2, step_con hv.1 (hn e (by simp)) hl.1]; omega
  | [], _ :: _, _, _, _, h => by cases h
  | _ :: _, [], _, _, _, h => by cases h
def daysS (rs : List Rate) (es : List Entry) (t : List Int) : Nat → Nat → Int
  | 0, _ => 0
  | c + 1, day => onDay rs day es t + daysS rs es t c (day + 1)
theorem last_debt {a : Acc} {t : List Int} (hv : a.entries.all (isEntry a.last) = true) (hn : noSt a.entries) (hl : listedS a.entries t = true) (h0 : 0 ≤ a.interest) (h1 : a.interest ≤ 200) : ∀ (c day : Nat) (w : Wk), w.debt + daysS a.rates a.entries t (c + 1) day ≤ (debtsF a t [] (c + 1) day w).1.getD c 0 ∧ (a.interest = 0 → (debtsF a t [] (c + 1) day w).1.getD c 0 = w.debt + daysS a.rates a.entries t (c + 1) day)
  | 0, day, w => by
    simp only [debtsF, List.getD_cons_zero, daysS]
    rw [dayS_nil, day_con hv hn hl]
    have hi := (int_bound (d := w.debt) h0 h1).1
    simp only [dayI]
    refine ⟨by omega, fun hz => ?_⟩
    rw [hz, intS_zero]; omega
  | c + 1, day, w => by
    have ih := last_debt hv hn hl h0 h1 c (day + 1) (dayS a t [] day w)
    have e1 : (debtsF a t [] (c + 1 + 1) day w).1.getD (c + 1) 0 = (debtsF a t [] (c + 1) (day + 1) (dayS a t [] day w)).1.getD c 0 := rfl
    have e2 : daysS a.rates a.entries t (c + 1 + 1) day = onDay a.rates day a.entries t + daysS a.rates a.entries t (c + 1) (day + 1) := rfl
    rw [e1, e2]
    have hd : (dayS a t [] day w).debt = w.debt + intS a.interest w.debt + onDay a.rates day a.entries t := by rw [dayS_nil, day_con hv hn hl]; rfl
    rw [hd] at ih
    have hi := (int_bound (d := w.debt) h0 h1).1
    refine ⟨by omega, fun hz => ?_⟩
    have := ih.2 hz
    rw [this, hz, intS_zero]; omega
theorem daysS_cons {rs : List Rate} {e : Entry} {u : Int} {es : List Entry} {us : List Int} : ∀ (c day : Nat), daysS rs (e :: es) (u :: us) c day = (if (day : Int) ≤ e.day ∧ e.day < day + c then conS rs e u else 0) + daysS rs es us c day
  | 0, day => by simp only [daysS]; rw [if_neg (by omega)]; rfl
  | c + 1, day => by
    simp only [daysS, onDay]
    rw [daysS_cons c (day + 1)]
    by_cases h1 : e.day = day
    · rw [if_pos h1, if_neg (by omega), if_pos (by omega)]; omega
    · rw [if_neg h1]
      by_cases h2 : ((day + 1 : Nat) : Int) ≤ e.day ∧ e.day < (day + 1 : Nat) + c
      · rw [if_pos h2, if_pos (by omega)]; omega
      · rw [if_neg h2, if_neg (by omega)]; omega
theorem days_sum {last : Int} {rs : List Rate} : ∀ {es : List Entry} {t : List Int}, es.all (isEntry last) = true → listedS es t = true → daysS rs es t (last + 1).toNat 0 = sumS rs es t
  | [], [], _, _ => by
    have : ∀ c day, daysS rs [] [] c day = 0 := by
      intro c
      induction c with
      | zero => intro day; rfl
      | succ c ih => intro day; simp only [daysS, onDay, ih]; rfl
    rw [this]; rfl
  | e :: es, u :: us, hv, hl => by
    simp only [List.all_cons, Bool.and_eq_true] at hv
    simp only [listedS, Bool.and_eq_true] at hl
    have hp := (isEntry_parts hv.1).2
    rw [daysS_cons, days_sum hv.2 hl.2, if_pos (by omega)]; rfl
  | [], _ :: _, _, h => by cases h
  | _ :: _, [], _, h => by cases h
theorem charged {a : Acc} (hf : faultS a = 0) (hn : noSt a.entries) {t : List Int} (hl : listedS a.entries t = true) : sumS a.rates a.entries t ≤ (debtsS a t []).1.getD a.last.toNat 0 ∧ (a.interest = 0 → (debtsS a t []).1.getD a.last.toNat 0 = sumS a.rates a.entries t) := by
  have hla := last_in hf
  have hz := (fault_zero hf).2.2.1
  simp only [inB, Bool.and_eq_true, decide_eq_true_eq] at hz
  have h := last_debt (fault_zero hf).2.2.2.2.1 hn hl (by omega) (by omega) a.last.toNat 0 ⟨0, 0, 0, true⟩
  have hs := days_sum (rs := a.rates) (fault_zero hf).2.2.2.2.1 hl
  rw [show (a.last + 1).toNat = a.last.toNat + 1 by omega] at hs
  rw [hs] at h
  unfold debtsS
  rw [show (a.last + 1).toNat = a.last.toNat + 1 by omega]
  refine ⟨?_, fun hi => ?_⟩
  · have := h.1; simpa using this
  · have := h.2 hi; simpa using this
theorem sumS_take {rs : List Rate} : ∀ {k : Nat} {es : List Entry} {t : List Int}, k < es.length → k < t.length → sumS rs (es.take (k + 1)) (t.take (k + 1)) = sumS rs (es.take k) (t.take k) + conS rs (getE es k) (t.getD k 0)
  | _, [], _, h, _ => by simp at h
  | _, _ :: _, [], _, h => by simp at h
  | 0, e :: es, u :: us, _, _ => by simp [sumS]
  | k + 1, e :: es, u :: us, h1, h2 => by
    have := sumS_take (rs := rs) (k := k) (es := es) (t := us) (by simpa using h1) (by simpa using h2)
    have e1 : getE (e :: es) (k + 1) = getE es k := rfl
    rw [e1]
    simp only [List.take_succ_cons, sumS, List.getD_cons_succ] at this ⊢
    rw [this]; omega
end AM.Try
end
/- The laws: an account without its statements. -/
section
namespace AM.Try
open Go AM AM.Duty
open Nat renaming reduceLT → sA, reduceAdd → sB, reduceMul → sC, reduceSub → sD, reduceLeDiff → sE, reduceEqDiff → sF, reduceBEq → sG
open Int renaming reduceAdd → sH, reduceSub → sI, reduceMul → sJ, reduceLT → sK, reduceLE → sL, reduceNeg → sM, reduceToNat → sN, reduceEq → sO
set_option maxHeartbeats 8000000
set_option maxRecDepth 100000
theorem c53 (a : Acc) (hl2 : a.entries.length ≤ 11) : PCall Go.Proofs.Try.prog 53 [avA a] (avA (plainA a)) := by
  refine pcall_mk (v := []) (q := []) (N := 27) (rs := [.cell 2 25]) Go.Proofs.Try.func53 rfl rfl rfl rfl rfl ?_
  refine awp_seq_k fun K1 hK1 => ?_
  refine awp_ops ?_
  simp (disch := omega) only [amL, amT, sA, sB, sF, ↓reduceIte]
  refine hK1 _ ?_
  refine awp_seq_k fun K2 hK2 => ?_
  refine awp_ops ?_
  simp (disch := omega) only [amL, sA]
  refine hK2 _ ?_
  refine awp_seq_k fun K3 hK3 => ?_
  refine awp_seq_k fun K4 hK4 => ?_
  refine awp_ops ?_
  simp (disch := omega) only [amL, sA]
  refine hK4 _ ?_
  refine awp_block ?_
  skip
  refine awp_loop_k (α := Nat) (fun k => ⟨T [(1, .ptr 1 0), (2, .ptr 2 0), (3, i64 (stN a.entries k : Int)), (4, i64 (k : Int))], O [(1, .cells (cA a)), (2, .cells [i64 0, i64 0, i64 0, i64 0, .p (.val (.slice none 0 0)), .p (.val (.slice none 0 0))])]⟩) (fun k => a.entries.length - k) (fun k => k ≤ a.entries.length) 0 ?_ ?_ (fun k hx5 K5 hK5 => ?_)
  · simp
  · refine le_mk ?_ ?_ ?_ ?_ <;> (try simp (disch := omega) only [amL, sF, sG, ↓reduceIte]); all_goals first | rfl | (omega)
  have hk := hx5
  refine awp_seq_k fun K6 hK6 => ?_
  refine awp_seq_k fun K7 hK7 => ?_
  refine awp_ops ?_
  simp (disch := omega) only [amL, amT, sA, sF, ↓reduceIte, reduceCtorEq]
  refine hK7 _ ?_
  refine awp_cond rfl (fun h => ?_) (fun h => ?_)
  ·first
   | exact Bool.noConfusion h
   |skip
    try simp only [decide_eq_true_eq] at h
    refine awp_skip ?_
    refine hK6 _ ?_
    refine awp_seq_k fun K8 hK8 => ?_
    refine awp_block ?_
    refine awp_seq_k fun K9 hK9 => ?_
    refine awp_ops ?_
    simp (disch := omega) only [encE_getD, amL, amT, sA, sB, sF, ↓reduceIte, reduceCtorEq]
    refine hK9 _ ?_
    refine awp_cond rfl (fun h => ?_) (fun h => ?_)
    ·first
     | exact Bool.noConfusion h
     |skip
      try simp only [decide_eq_true_eq] at h
      refine awp_ops ?_
      have hsx := shl1 (n := k) (by omega)
      have hpx : 2 ^ k < 65536 := Nat.pow_lt_pow_right (n := 16) (by decide) (by omega)
      have hs1 : stN a.entries k < 65536 := Nat.lt_trans stN_lt hpx
      have hwx : IntKind.i64.wrap ((2 ^ k : Nat) : Int) = ((2 ^ k : Nat) : Int) := (by generalize 2 ^ k = z at hpx ⊢; exact wrap64 (by omega) (by omega))
      simp (disch := omega) only [hsx, hwx, fBin_or hs1 hpx, wrapU, amL, amT, sA, sF, ↓reduceIte]
      refine hK8 _ ?_
      refine awp_ops ?_
      simp (disch := omega) only [amL, amT, sA, sF, ↓reduceIte]
      refine hK5 (k+1) _ ?_ ?_ (le_mk ?_ ?_ ?_ ?_)
      all_goals (try simp (disch := omega) only [amL, sF, sG, ↓reduceIte])
      all_goals first | omega | (rw [stN, if_pos (by omega)]; done) | (rw [stN, if_neg (by omega)]; done) | (omega)
    ·first
     | exact Bool.noConfusion h
     |skip
      try simp only [decide_eq_false_iff_not] at h
      refine awp_skip ?_
      refine hK8 _ ?_
      refine awp_ops ?_
      simp (disch := omega) only [amL, amT, sA, sF, ↓reduceIte]
      refine hK5 (k+1) _ ?_ ?_ (le_mk ?_ ?_ ?_ ?_)
      all_goals (try simp (disch := omega) only [amL, sF, sG, ↓reduceIte])
      all_goals first | omega | (rw [stN, if_pos (by omega)]; done) | (rw [stN, if_neg (by omega)]; done) | (omega)
  ·first
   | exact Bool.noConfusion h
   |skip
    try simp only [decide_eq_false_iff_not] at h
    refine awp_exit ?_
    refine hK3 _ ?_
    refine awp_seq_k fun K10 hK10 => ?_
    refine awp_ops ?_
    simp (disch := omega) only [amL, amT, sA, sB, sF, ↓reduceIte]
    repeat' first | (refine EC_intro (by kernel_rfl) rfl (c51 a (stN a.entries k) (by omega)) (by first | exact .inl rfl | exact .inr (.inl rfl)) ?_ ; simp (disch := omega) only [amL, amT, sB, sF, ↓reduceIte])
    refine hK10 _ ?_
    refine awp_ret ?_
    try simp (disch := omega) only [amL, amT, sB, sF, ↓reduceIte]
    rw [show k = a.entries.length by omega]; rfl
end AM.Try
end
/- Play's debts are new; a list's copy is one's own. -/
section
namespace AM.Try
open Go AM AM.Duty
open Nat renaming reduceLT → sA, reduceAdd → sB, reduceMul → sC, reduceSub → sD, reduceLeDiff → sE, reduceEqDiff → sF, reduceBEq → sG
open Int renaming reduceAdd → sH, reduceSub → sI, reduceMul → sJ, reduceLT → sK, reduceLE → sL, reduceNeg → sM, reduceToNat → sN, reduceEq → sO
set_option maxHeartbeats 8000000
set_option maxRecDepth 100000
theorem n23 (l : List Int) (hl : l.length < 1000000) : NCall Go.Proofs.Try.prog 23 [isl l] 1 (l.map encI) := by
  refine ncall_mk (v := []) (q := []) (N := 6) (i := 2) Go.Proofs.Try.func23 rfl rfl rfl rfl ?_
  refine awp_seq_k fun K1 hK1 => ?_
  refine awp_ops ?_
  simp (disch := omega) only [amL, sA]
  refine hK1 _ ?_
  refine awp_seq_k fun K2 hK2 => ?_
  refine awp_ops ?_
  simp (disch := omega) only [isl_all, amL, amT, sA, sF, ↓reduceIte, reduceCtorEq]
  refine hK2 _ ?_
  refine awp_ret ?_
  try simp (disch := omega) only [RetN_ret, amL, ↓reduceIte]
  first | (rw [viewN_own rfl (by simp) (ints_isVal l)]; done) | (omega)
theorem c21f (a : Acc) (t : List Int) (hl1 : a.rates.length < 1000000) (hl2 : a.entries.length < 1000000) (hlt : t.length < 1000000) (hin : ∀ e ∈ a.entries, inR e.lo = true ∧ inR e.hi = true) : FCall Go.Proofs.Try.prog 21 [avA a, isl t] (playA a t) := by
  refine fcallt_mk (v := []) (q := []) (N := 52) (i := 4) (j := 5) Go.Proofs.Try.func21 rfl rfl rfl rfl (playA_isP a t) ?_
  refine awp_seq_k fun K1 hK1 => ?_
  refine awp_ops ?_
  simp (disch := omega) only [amL, sA, sB, ↓reduceIte]
  refine hK1 _ ?_
  refine awp_seq_k fun K2 hK2 => ?_
  refine awp_seq_k fun K3 hK3 => ?_
  refine awp_ops ?_
  simp (disch := omega) only [amL, amT, sA, sB, sF, ↓reduceIte]
  repeat' first | (refine EC_intro (by kernel_rfl) rfl (c25 a hl1 hl2 hin) (by first | exact .inl rfl | exact .inr (.inl rfl)) ?_ ; simp (disch := omega) only [amL, sA, ↓reduceIte])
  refine hK3 _ ?_
  refine awp_seq_k fun K4 hK4 => ?_
  refine awp_ops ?_
  simp (disch := omega) only [ne_eq, amL, amT, sA, ↓reduceIte]
  refine hK4 _ ?_
  refine awp_cond rfl (fun h => ?_) (fun h => ?_)
  ·first
   | exact Bool.noConfusion h
   |skip
    try simp only [Bool.not_eq_true', decide_eq_false_iff_not, decide_not] at h
    refine awp_seq_k fun K5 hK5 => ?_
    refine awp_ops ?_
    simp (disch := omega) only [amL, sA, sF, ↓reduceIte]
    refine hK5 _ ?_
    refine awp_ret ?_
    try simp (disch := omega) only [RetFT_ret, amL, sF, ↓reduceIte]
    first | (rw [playA, if_neg (by assumption)]; exact ⟨_, _, rfl, rfl, rfl⟩) | (rw [playA, if_pos hf0, if_pos hli, if_pos hb]; refine ⟨_, _, viewT_own rfl (by simp) (ints_isVal _), rfl, ?_⟩; rw [List.take_of_length_le (by simp)]; done) | (rw [playA, if_pos hf0, if_pos hli, if_neg (by simpa using h)]; exact ⟨_, _, rfl, rfl, rfl⟩) | (rw [playA, if_pos (by omega), if_neg (fun e => by have := listed_len e; omega)]; exact ⟨_, _, rfl, rfl, rfl⟩) | (rw [playA, if_pos (by omega), if_neg (fun e => by have := listed_get e k (by omega); simp_all)]; exact ⟨_, _, rfl, rfl, rfl⟩) | (omega)
  ·first
   | exact Bool.noConfusion h
   |skip
    try simp only [decide_eq_true_eq, Bool.not_eq_false', decide_not] at h
    refine awp_skip ?_
    refine hK2 _ ?_
    refine awp_seq_k fun K6 hK6 => ?_
    refine awp_seq_k fun K7 hK7 => ?_
    refine awp_ops ?_
    simp (disch := omega) only [ne_eq, amL, amT, sA, sF, ↓reduceIte, reduceCtorEq]
    refine hK7 _ ?_
    refine awp_cond rfl (fun h => ?_) (fun h => ?_)
    ·first
     | exact Bool.noConfusion h
     |skip
      try simp only [Bool.not_eq_true', decide_eq_false_iff_not, decide_not] at h
      refine awp_seq_k fun K8 hK8 => ?_
      refine awp_ops ?_
      simp (disch := omega) only [amL, sA]
      refine hK8 _ ?_
      refine awp_ret ?_
      try simp (disch := omega) only [RetFT_ret, amL, sF, ↓reduceIte]
      first | (rw [playA, if_neg (by assumption)]; exact ⟨_, _, rfl, rfl, rfl⟩) | (rw [playA, if_pos hf0, if_pos hli, if_pos hb]; refine ⟨_, _, viewT_own rfl (by simp) (ints_isVal _), rfl, ?_⟩; rw [List.take_of_length_le (by simp)]; done) | (rw [playA, if_pos hf0, if_pos hli, if_neg (by simpa using h)]; exact ⟨_, _, rfl, rfl, rfl⟩) | (rw [playA, if_pos (by omega), if_neg (fun e => by have := listed_len e; omega)]; exact ⟨_, _, rfl, rfl, rfl⟩) | (rw [playA, if_pos (by omega), if_neg (fun e => by have := listed_get e k (by omega); simp_all)]; exact ⟨_, _, rfl, rfl, rfl⟩) | (omega)
    ·first
     | exact Bool.noConfusion h
     |skip
      try simp only [decide_eq_true_eq, Bool.not_eq_false', decide_not] at h
      refine awp_skip ?_
      refine hK6 _ ?_
      refine awp_seq_k fun K9 hK9 => ?_
      refine awp_seq_k fun K10 hK10 => ?_
      refine awp_ops ?_
      simp (disch := omega) only [amL, amT, sA, sF, ↓reduceIte, reduceCtorEq]
      refine hK10 _ ?_
      refine awp_block ?_
      skip
      refine awp_loop_k (α := Nat) (fun k => ⟨T [(1, isl t), (2, .ptr 2 0), (23, .p (.sl (a.entries.map encE))), (24, i64 a.entries.length), (25, i64 k)], O [(2, .cells (cA a))]⟩) (fun k => a.entries.length - k) (fun k => k ≤ a.entries.length ∧ ∀ j, j < k → inB (t.getD j 0) (getE a.entries j).lo (getE a.entries j).hi = true) 0 ?_ ?_ (fun k hx11 K11 hK11 => ?_)
      · exact ⟨by omega, fun j hj => absurd hj (by omega)⟩
      · refine le_mk ?_ ?_ ?_ ?_ <;> (try simp (disch := omega) only [amL, sF, ↓reduceIte, reduceCtorEq])
      obtain ⟨hk, hn⟩ := hx11
      refine awp_seq_k fun K12 hK12 => ?_
      refine awp_ops ?_
      simp (disch := omega) only [amL, amT, sA, sF, ↓reduceIte]
      refine hK12 _ ?_
      refine awp_seq_k fun K13 hK13 => ?_
      refine awp_cond rfl (fun h => ?_) (fun h => ?_)
      ·first
       | exact Bool.noConfusion h
       |skip
        try simp only [decide_eq_true_eq] at h
        refine awp_skip ?_
        refine hK13 _ ?_
        refine awp_seq_k fun K14 hK14 => ?_
        refine awp_block ?_
        refine awp_seq_k fun K15 hK15 => ?_
        refine awp_ops ?_
        simp (disch := omega) only [encE_getD, amL, amT, sA, sB, sF, ↓reduceIte]
        refine hK15 _ ?_
        refine awp_seq_k fun K16 hK16 => ?_
        refine awp_any2 (by kernel_rfl) (by kernel_rfl) ?_
        simp (disch := omega) only [amL, amT, sA, sB, sE, sF, ↓reduceIte, reduceCtorEq]
        repeat' first | (refine EC_intro (by kernel_rfl) rfl (c58 _ _ _) (by first | exact .inl rfl | exact .inr (.inl rfl)) ?_ ; simp (disch := omega) only [amL, sA, ↓reduceIte])
        refine hK16 _ ?_
        refine awp_cond rfl (fun h => ?_) (fun h => ?_)
        ·first
         | exact Bool.noConfusion h
         |skip
          try simp only [Bool.not_eq_true'] at h
          refine awp_seq_k fun K17 hK17 => ?_
          refine awp_ops ?_
          simp (disch := omega) only [amL, sA]
          refine hK17 _ ?_
          refine awp_ret ?_
          try simp (disch := omega) only [RetFT_ret, amL, sF, ↓reduceIte]
          first | (rw [playA, if_neg (by assumption)]; exact ⟨_, _, rfl, rfl, rfl⟩) | (rw [playA, if_pos hf0, if_pos hli, if_pos hb]; refine ⟨_, _, viewT_own rfl (by simp) (ints_isVal _), rfl, ?_⟩; rw [List.take_of_length_le (by simp)]; done) | (rw [playA, if_pos hf0, if_pos hli, if_neg (by simpa using h)]; exact ⟨_, _, rfl, rfl, rfl⟩) | (rw [playA, if_pos (by omega), if_neg (fun e => by have := listed_len e; omega)]; exact ⟨_, _, rfl, rfl, rfl⟩) | (rw [playA, if_pos (by omega), if_neg (fun e => by have := listed_get e k (by omega); simp_all)]; exact ⟨_, _, rfl, rfl, rfl⟩) | (omega)
        ·first
         | exact Bool.noConfusion h
         |skip
          try simp only [Bool.not_eq_false'] at h
          refine awp_skip ?_
          refine hK14 _ ?_
          refine awp_ops ?_
          simp (disch := omega) only [amL, amT, sA, sF, ↓reduceIte]
          refine hK11 (k+1) _ ?_ ?_ (le_mk ?_ ?_ ?_ ?_)
          all_goals (try simp (disch := omega) only [amL, sF, ↓reduceIte])
          all_goals first | omega | exact ⟨by omega, fun j hj => by
            by_cases e : j = k
            · subst e; assumption
            · exact hn j (by omega)⟩ | (omega)
      ·first
       | exact Bool.noConfusion h
       |skip
        try simp only [decide_eq_false_iff_not] at h
        refine awp_exit ?_
        refine hK9 _ ?_
        refine awp_seq_k fun K18 hK18 => ?_
        refine awp_ops ?_
        have hli : listedP a.entries t = true := listed_of (by omega) (fun j hj => hn j (by omega))
        have hf0 : faultS a = 0 := by omega
        have hfit := fitP_of hf0 hli
        have hpl := pad_len (playS_le (t := t) (paid := []) (ask := true) hfit.last1)
        have hpc := putCells_all (vs := List.map i64 (pad (playS a t [] true).1)) (l := [i64 0, i64 0, i64 0, i64 0, i64 0, i64 0, i64 0, i64 0, i64 0, i64 0, i64 0, i64 0]) (by rw [List.length_map, hpl]; rfl)
        have hl0 := hfit.last0
        have hl11 := hfit.last1
        simp (disch := omega) only [amL, amT, sA, sB, sF, ↓reduceIte]
        repeat' first | (refine EC_intro (by kernel_rfl) rfl (PCall.of_nil 2 rfl (c59 a t [] true hfit (by simp))) (by first | exact .inl rfl | exact .inr (.inl rfl)) ?_ ; simp (disch := omega) only [hpl, hpc, amL, amT, sA, sB, sF, ↓reduceIte])
        refine hK18 _ ?_
        refine awp_seq_k fun K19 hK19 => ?_
        refine awp_seq_k fun K20 hK20 => ?_
        refine awp_ops ?_
        simp (disch := omega) only [amL, sA, ↓reduceIte]
        refine hK20 _ ?_
        refine awp_cond rfl (fun h => ?_) (fun h => ?_)
        ·first
         | exact Bool.noConfusion h
         |skip
          try simp only [Bool.not_eq_true'] at h
          refine awp_seq_k fun K21 hK21 => ?_
          refine awp_ops ?_
          simp (disch := omega) only [amL, sA]
          refine hK21 _ ?_
          refine awp_ret ?_
          try simp (disch := omega) only [RetFT_ret, amL, sF, ↓reduceIte]
          first | (rw [playA, if_neg (by assumption)]; exact ⟨_, _, rfl, rfl, rfl⟩) | (rw [playA, if_pos hf0, if_pos hli, if_pos hb]; refine ⟨_, _, viewT_own rfl (by simp) (ints_isVal _), rfl, ?_⟩; rw [List.take_of_length_le (by simp)]; done) | (rw [playA, if_pos hf0, if_pos hli, if_neg (by simpa using h)]; exact ⟨_, _, rfl, rfl, rfl⟩) | (rw [playA, if_pos (by omega), if_neg (fun e => by have := listed_len e; omega)]; exact ⟨_, _, rfl, rfl, rfl⟩) | (rw [playA, if_pos (by omega), if_neg (fun e => by have := listed_get e k (by omega); simp_all)]; exact ⟨_, _, rfl, rfl, rfl⟩) | (omega)
        ·first
         | exact Bool.noConfusion h
         |skip
          try simp only [Bool.not_eq_false'] at h
          refine awp_skip ?_
          refine hK19 _ ?_
          refine awp_seq_k fun K22 hK22 => ?_
          refine awp_ops ?_
          simp (disch := omega) only [EO_slice95, fSlA_ptr, bound_none, bound_some, bnd1_int, viewA_csl, viewC_csl, amL, amT, sA, sF, sH, sK, sL, sN, ↓reduceIte, reduceCtorEq]
          have hb : (playS a t [] true).2 = true := by simpa using h
          simp only [show (a.last + 1 - 0).toNat = (a.last + 1).toNat by omega]
          rw [elems_ints rfl (by rw [hpl]; omega), pad_take2 (playS_len hb)]
          simp only [Option.map_some, oc2_some]
          refine EN_intro (by kernel_rfl) (by decide) (n60 _ (by rw [playS_len hb]; omega)) (by simp (disch := omega) only [amL, sF, ↓reduceIte]) ?_
          simp (disch := omega) only [amL, sA, ↓reduceIte]
          all_goals
           skip
           refine hK22 _ ?_
           refine awp_ret ?_
           try simp (disch := omega) only [RetFT_ret, amL, sF, ↓reduceIte]
           first | (rw [playA, if_neg (by assumption)]; exact ⟨_, _, rfl, rfl, rfl⟩) | (rw [playA, if_pos hf0, if_pos hli, if_pos hb]; refine ⟨_, _, viewT_own rfl (by simp) (ints_isVal _), rfl, ?_⟩; rw [List.take_of_length_le (by simp)]; done) | (rw [playA, if_pos hf0, if_pos hli, if_neg (by simpa using h)]; exact ⟨_, _, rfl, rfl, rfl⟩) | (rw [playA, if_pos (by omega), if_neg (fun e => by have := listed_len e; omega)]; exact ⟨_, _, rfl, rfl, rfl⟩) | (rw [playA, if_pos (by omega), if_neg (fun e => by have := listed_get e k (by omega); simp_all)]; exact ⟨_, _, rfl, rfl, rfl⟩) | (omega)
end AM.Try
end
/- The abstract machine, part 47: regions that draw their order: an append, then operations that look. -/
section
namespace AM
open Go
def xop (P : Program) : Op → Bool
  | .fieldAddr .. => true
  | .indexAddr .. => true
  | .build .. => true
  | .buildSlice .. => true
  | .load t _ => (tyOf P t).agg == some false
  | _ => false
section
variable {P : Program} {r : RB} {N : Nat} {all : List Oper} {d : Nat} {op : Op} {ρ ρ' : Operand → AV} {os os' : Nat → Option AO} {s : St}
theorem xop_q (h : xop P op = true) : qop op = true ∧ goCall op = false ∧ isDefer op = false ∧ isM op = false := by
  cases op <;> first | (simp [xop] at h; done) | exact ⟨rfl, rfl, rfl, rfl⟩
theorem purge_id {n : Nat} {x : AV} (h : x.purge n = x) (hu : x ≠ .undef) : x.clean n = true := by
  unfold AV.purge at h
  split at h
  · assumption
  · exact absurd h.symm hu
theorem fillParts_ne {zero : List AV} {place : Nat → Option (Nat × Nat)} : ∀ {l : List (Nat × AV)} {cs : List AV}, fillParts zero place l = some cs → ∀ p ∈ l, p.2 ≠ .undef
  | [], _, _, p, hp => by cases hp
  | (i, x) :: l, cs, h, p, hp => by
    simp only [fillParts] at h
    split at h
    · rename_i off sz cs' g1 g2
      split at h
      · rcases List.mem_cons.1 hp with rfl | hp
        · intro e
          dsimp only at e; subst e; simp [AV.cs?] at g2
        · exact fillParts_ne h p hp
      · cases h
    · cases h
theorem partElems_ne {k : Nat} : ∀ {l : List (Nat × AV)} {i : Nat} {es : List (List PV)}, partElems k i l = some es → ∀ p ∈ l, p.2 ≠ .undef
  | [], _, _, _, p, hp => by cases hp
  | (j, x) :: l, i, es, h, p, hp => by
    simp only [partElems] at h
    split at h
    · rename_i c es' g1 g2
      split at h
      · rcases List.mem_cons.1 hp with rfl | hp
        · intro e
          dsimp only at e; subst e; simp [AV.cs?] at g1
        · exact partElems_ne g2 p hp
      · cases h
    · cases h
theorem parts_same {n : Nat} {l : List (Nat × Operand)} (hρ : ∀ p ∈ l, ρ' p.2 = (ρ p.2).purge n) (h : ∀ p ∈ l.map fun p => (p.1, ρ' p.2), p.2 ≠ .undef) : (l.map fun p => (p.1, ρ' p.2)) = l.map fun p => (p.1, ρ p.2) := by
  refine List.map_congr_left fun p hp => ?_
  have h1 := h (p.1, ρ' p.2) (List.mem_map.2 ⟨p, hp, rfl⟩)
  have h2 := hρ p hp
  rcases purge_cases n (ρ p.2) with e | e
  · rw [h2, e]
  · exact absurd (h2.trans e) h1
theorem x_unpurge (h : xop P op = true) {n : Nat} (hρ : ∀ x ∈ op.operands.toList, ρ' x = (ρ x).purge n) (ho : ∀ m, m ≠ n → os' m = (os m).map (AO.purge n)) {e : Eff} (he : eff P d op ρ' os' = some e) (hgood : ∀ y, e = .pure y → y.clean n = true) :
    (∃ y y', e = .pure y ∧ y = y'.purge n ∧ eff P d op ρ os = some (.pure y')) ∨ (∃ k es len, e = .new (.arr k es) (.own d len) ∧ eff P d op ρ os = some e) := by
  cases op with
  | load t x =>
    have hld : ∀ ρ os, eff P d (.load t x) ρ os = fLoad (tyOf P t).agg (tyOf P t).sz os (ρ x) := fun _ _ => rfl
    rw [hld] at he ⊢
    have hx := hρ x (by simp [Op.operands])
    have hag : (tyOf P t).agg = some false := by simpa [xop] using h
    rw [hag] at he ⊢
    rcases purge_cases n (ρ x) with e1 | e1
    · have hxx : ρ' x = ρ x := hx.trans e1
      rw [hxx] at he
      left
      cases hv : ρ x with
      | ptr m off =>
        have hmn : m ≠ n := fun em => by
          have hcl := purge_id e1 (by rw [hv]; intro h; cases h)
          rw [hv] at hcl; simp [AV.clean, em] at hcl
        rw [hv, fLoad_ptr, ho m hmn] at he
        rw [fLoad_ptr]
        cases hm : os m with
        | none => rw [hm] at he; cases he
        | some o =>
          rw [hm, Option.map_some] at he
          cases o with
          | cells cs =>
            simp only [AO.purge, fLoadP_cells, takeCells, Bool.false_eq_true, if_false, ← List.map_drop, List.head?_map] at he ⊢
            cases hc : (cs.drop off).head? with
            | none => rw [hc] at he; cases he
            | some z =>
              rw [hc] at he
              cases he
              exact ⟨_, z, rfl, rfl, rfl⟩
          | arr k es => cases he
          | obj X => cases he
          | loop k tm => cases he
      | eptr m k i off =>
        have hmn : m ≠ n := fun em => by
          have hcl := purge_id e1 (by rw [hv]; intro h; cases h)
          rw [hv] at hcl; simp [AV.clean, em] at hcl
        rw [hv, fLoad_eptr, ho m hmn] at he
        rw [fLoad_eptr]
        cases hm : os m with
        | none => rw [hm] at he; cases he
        | some o =>
          rw [hm, Option.map_some] at he
          cases o with
          | cells cs => cases he
          | arr k es =>
            simp only [AO.purge] at he
            simp only [fLoadE_arr] at he ⊢
            split at he
            · rename_i hcnd
              rw [if_pos hcnd]
              simp only [takeCells, Bool.false_eq_true, if_false] at he ⊢
              rw [List.head?_map] at he ⊢
              cases hc : ((es.getD i []).drop off).head? with
              | none => rw [hc] at he; cases he
              | some z => rw [hc] at he; cases he; exact ⟨_, .p z, rfl, rfl, rfl⟩
            · cases he
          | obj X => cases he
          | loop k tm => cases he
      | p z =>
        cases z with
        | ro cs =>
          rw [hv, fLoad_ro] at he
          rw [fLoad_ro]
          simp only [takeCells, Bool.false_eq_true, if_false, List.head?_map] at he ⊢
          cases hc : cs.head? with
          | none => rw [hc] at he; cases he
          | some z => rw [hc] at he; cases he; exact ⟨_, .p z, rfl, rfl, rfl⟩
        | val v => rw [hv] at he; cases he
        | sl es => rw [hv] at he; cases he
      | _ => rw [hv] at he; cases he
    · rw [hx, e1] at he; cases he
  | fieldAddr t x f =>
    have hx := hρ x (by simp [Op.operands])
    left
    rcases purge_cases n (ρ x) with e1 | e1
    · have hxx : ρ' x = ρ x := hx.trans e1
      simp only [eff, hxx] at he ⊢
      split at he
      · split at he
        · split at he
          · cases he
          · rename_i hz
            rw [if_neg hz]
            split at he
            · rename_i m off hv
              cases he
              exact ⟨_, _, rfl, (if_pos (hgood _ rfl)).symm, rfl⟩
            · rename_i m k i off hv
              cases he
              exact ⟨_, _, rfl, (if_pos (hgood _ rfl)).symm, rfl⟩
            · cases he
              exact ⟨_, _, rfl, rfl, rfl⟩
            · cases he
        · cases he
      · cases he
    · simp only [eff, hx, e1] at he
      split at he
      · split at he
        · split at he <;> cases he
        · cases he
      · cases he
  | build t parts =>
    left
    have key : ∀ p ∈ parts.toList, ρ' p.2 = (ρ p.2).purge n := fun p hp => hρ p.2 (by simp only [Op.operands]; exact List.mem_map.2 ⟨p, hp, rfl⟩)
    simp only [eff] at he ⊢
    split at he
    · rename_i hz
      rw [if_pos hz]
      split at he
      · split at he
        · cases he
        · rename_i hb
          rw [if_neg hb]
          obtain ⟨cs, h1, rfl⟩ := Option.map_eq_some_iff.1 he
          have hs := parts_same key (fillParts_ne h1)
          rw [hs] at h1
          exact ⟨_, .agg cs, rfl, (if_pos (hgood _ rfl)).symm, by rw [h1]; rfl⟩
      · split at he
        · cases he
        · rename_i hb
          rw [if_neg hb]
          obtain ⟨cs, h1, rfl⟩ := Option.map_eq_some_iff.1 he
          have hs := parts_same key (fillParts_ne h1)
          rw [hs] at h1
          exact ⟨_, .agg cs, rfl, (if_pos (hgood _ rfl)).symm, by rw [h1]; rfl⟩
      · cases he
    · cases he
  | buildSlice t len parts =>
    right
    have key : ∀ p ∈ parts.toList, ρ' p.2 = (ρ p.2).purge n := fun p hp => hρ p.2 (by simp only [Op.operands]; exact List.mem_map.2 ⟨p, hp, rfl⟩)
    simp only [eff] at he ⊢
    split at he
    · split at he
      · rename_i es h1
        have hs := parts_same key (partElems_ne h1)
        rw [hs] at h1
        rw [h1]
        dsimp only
        split at he
        · rename_i hc
          rw [if_pos hc]
          cases he
          exact ⟨_, _, _, rfl, rfl⟩
        · cases he
      · cases he
    · cases he
  | indexAddr t x i =>
    left
    have hx := hρ x (by simp [Op.operands])
    have hi := hρ i (by simp [Op.operands])
    have hii : ρ' i = ρ i ∨ ρ' i = .undef := by
      rcases purge_cases n (ρ i) with e1 | e1
      · exact .inl (hi.trans e1)
      · exact .inr (hi.trans e1)
    have hxx : ρ' x = ρ x ∨ ρ' x = .undef := by
      rcases purge_cases n (ρ x) with e1 | e1
      · exact .inl (hx.trans e1)
      · exact .inr (hx.trans e1)
    rcases hii with hii | hii
    · rcases hxx with hxx | hxx
      · have hcl : ρ x ≠ .undef → (ρ x).clean n = true := fun hu => purge_id (hx.symm.trans hxx) hu
        simp only [eff, hii, hxx] at he ⊢
        split at he
        · split at he
          · split at he
            · rename_i hc
              rw [if_pos hc]; cases he
              exact ⟨_, _, rfl, rfl, rfl⟩
            · cases he
          · rename_i m len hv
            have hcl := hcl (by rw [hv]; intro h; cases h)
            rw [hv] at hcl
            have hmn : m ≠ n := fun em => by simp [AV.clean, em] at hcl
            rw [ho m hmn] at he
            cases hm : os m with
            | none => rw [hm] at he; cases he
            | some o =>
              rw [hm] at he
              cases o with
              | arr k es =>
                simp only [Option.map_some, AO.purge] at he ⊢
                split at he
                · rename_i hc
                  rw [if_pos hc]; cases he
                  exact ⟨_, _, rfl, (if_pos (hgood _ rfl)).symm, rfl⟩
                · cases he
              | cells cs => cases he
              | obj X => cases he
              | loop k tm => cases he
          · rename_i m off k len hv
            split at he
            · rename_i hc
              rw [if_pos hc]; cases he
              exact ⟨_, _, rfl, (if_pos (hgood _ rfl)).symm, rfl⟩
            · cases he
          · cases he
        · split at he
          · rename_i m off hv
            split at he
            · rename_i hc
              rw [if_pos hc]; cases he
              exact ⟨_, _, rfl, (if_pos (hgood _ rfl)).symm, rfl⟩
            · cases he
          · split at he
            · rename_i hc
              rw [if_pos hc]; cases he
              exact ⟨_, _, rfl, rfl, rfl⟩
            · cases he
          · cases he
        · cases he
      · simp only [eff, hxx] at he
        split at he <;> first | cases he | (split at he <;> cases he)
    · simp only [eff, hii] at he
      split at he <;> first | contradiction | (cases he; done)
  | _ => simp [xop] at h
theorem elems_os {x : AV} (h : ∀ m, x.clean m = false → os' m = os m) : elems? os' x = elems? os x := by
  cases x with
  | own m len => simp only [elems?]; rw [h m (by simp [AV.clean])]
  | csl m off k len => simp only [elems?]; rw [h m (by simp [AV.clean])]
  | _ => rfl
theorem app_os (h : lapp op = true) (ho : ∀ x ∈ op.operands.toList, ∀ m, (ρ x).clean m = false → os' m = os m) : eff P d op ρ os' = eff P d op ρ os := by
  unfold lapp at h
  split at h
  · rename_i az ts
    have hm : ∀ x ∈ az.toList, ∀ m, (ρ x).clean m = false → os' m = os m := fun x hx => ho x (by simp [Op.operands, Call.operands]; simpa using hx)
    simp only [eff]
    cases hts : ts.toList with
    | nil => rfl
    | cons t r => cases r with
      | nil => rfl
      | cons t' r => cases r with
        | cons _ _ => rfl
        | nil => cases hargs : az.toList with
          | nil => rfl
          | cons x l => cases l with
            | nil => rfl
            | cons y l => cases l with
              | cons _ _ => rfl
              | nil =>
                rw [hargs] at hm
                have h1 := hm x (by simp)
                have h2 := elems_os (hm y (by simp))
                simp only [h2]
                by_cases hz : ∃ n len, ρ x = .own n len
                · obtain ⟨n, len, e⟩ := hz
                  rw [e] at h1 ⊢
                  have h3 := h1 n (by simp [AV.clean])
                  simp only [h3]
                · split
                  · split
                    · split
                      · split
                        · rename_i e; simp only []
                        · rename_i n len e; exact absurd ⟨n, len, e⟩ hz
                        · rfl
                      · rfl
                    · rfl
                  · rfl
  · cases h
def FreeI (r : RB) (s : St) (i : Oper) : Prop := ∀ d, i.dst = some d → s.o (r.b + d) = none
def NewOnly (r : RB) (o : Oper) (s s1 : St) : Prop := ∀ m, s.o m = none → (∀ d, o.dst = some d → m ≠ r.b + d) → s1.o m = none
def plainOp (v : List Nat) (o : Oper) : Bool := o.guard.isNone && !isM o.op && !isV v o.op && !goCall o.op && !isDefer o.op && (qop o.op || lapp o.op || lsto o.op)
theorem plain_spec {v : List Nat} {o : Oper} (h : plainOp v o = true) : o.guard = none ∧ isM o.op = false ∧ isV v o.op = false ∧ goCall o.op = false ∧ isDefer o.op = false ∧ (qop o.op = true ∨ lapp o.op = true ∨ lsto o.op = true) := by
  simp only [plainOp, Bool.and_eq_true, Bool.or_eq_true, Bool.not_eq_true', Option.isNone_iff_eq_none] at h
  obtain ⟨⟨⟨⟨⟨h1, h2⟩, h3⟩, h4⟩, h5⟩, h6⟩ := h
  exact ⟨h1, h2, h3, h4, h5, h6.elim (fun h => h.elim .inl fun h => .inr (.inl h)) fun h => .inr (.inr h)⟩
theorem plain_step {o : Oper} (h : plainOp r.v o = true) (hc : s.closed) {e : Eff} {s1 : St} (he : eff P (r.b + o.dst.getD 0) o.op (ev s.t) s.o = some e) (hs : e.apply r.b o.dst s = some s1) : s1.closed ∧ NewOnly r o s s1 := by
  obtain ⟨h1, h2, h3, h4, h5, h6⟩ := plain_spec h
  rcases h6 with h6 | h6 | h6
  · have hg := eff_good (P := P) (d := r.b + o.dst.getD 0) h6 h4 hc e he
    cases e with
    | pure x =>
      cases hs
      exact ⟨lives_put hc hg, fun m hm _ => by cases o.dst <;> exact hm⟩
    | new a x =>
      obtain ⟨d, hd, hn, rfl⟩ := apply_new' hs
      refine ⟨lives_new hc hg.1 (fun m hm => by have := hg.2 m hm; rw [hd] at this; exact this), fun m hm hne => ?_⟩
      show upd s.o (r.b + d) _ m = none
      rw [upd_other (hne d hd)]; exact hm
    | upd n a => exact hg.elim
    | app n a x => exact hg.elim
  · rcases app_kind h6 he with ⟨k, es, len, rfl⟩ | ⟨n, k, es, len, rfl⟩
    · obtain ⟨d, hd, _, rfl⟩ := apply_new' hs
      refine ⟨lives_new hc (AO.lives_arr _ _ _) (fun m hm => by rw [hd] at hm; exact clean_own m hm), fun m hm hne => ?_⟩
      show upd s.o (r.b + d) _ m = none
      rw [upd_other (hne d hd)]; exact hm
    · obtain ⟨d, hd, _, rfl⟩ := apply_app' hs
      refine ⟨lives_new (closed_purge hc n) (AO.lives_arr _ _ _) (fun m hm => by rw [hd] at hm; exact clean_own m hm), fun m hm hne => ?_⟩
      show upd (s.purge n).o (r.b + d) _ m = none
      rw [upd_other (hne d hd)]
      by_cases e : m = n
      · subst e; exact St.purge_o_same ..
      · rw [St.purge_o_other s e, hm]; rfl
  · obtain ⟨n, ob, rfl, h5, h7⟩ := sto_kind h6 hc he
    cases hs
    refine ⟨lives_put (closed_setO hc h5) (AV.lives_undef _), fun m hm _ => ?_⟩
    have : ((s.setO n ob).put o.dst .undef).o m = upd s.o n (some ob) m := by cases o.dst <;> rfl
    rw [this, upd_other (fun e => by subst e; rw [hm] at h7; cases h7)]
    exact hm
theorem swap_app_x {j i : Oper} {l : List Oper} {K : St → Prop} (hj : lapp j.op = true) (hjg : j.guard = none) (hi : xop P i.op = true) (hig : i.guard = none) (hap : j.apart all.toArray i = true) (hc : s.closed) (hfr : FreeI r s i) (hE : EL P r N all (j :: i :: l) s K) : EL P r N all (i :: j :: l) s K := by
  obtain ⟨f1, f2, f3⟩ := app_flags hj
  obtain ⟨q1, q2, q3, q4⟩ := xop_q hi
  obtain ⟨a1, a2, a3⟩ := Oper.apart_spec hap
  rw [EL_some hjg f1 f2 f3] at hE
  obtain ⟨h1, e, s1, he, hs1, h2⟩ := hE
  rw [EL_some hig q2 q3 q4] at h2
  obtain ⟨h3, e2, s2, he2, hs2, h4⟩ := h2
  have hlook : ∀ x ∈ i.op.operands.toList, ∀ d, j.dst = some d → x ≠ .tmp d := fun x hx d hd hxd => a1 d hd (ops_looks hx hxd)
  have hlook2 : ∀ x ∈ j.op.operands.toList, ∀ d, i.dst = some d → x ≠ .tmp d := fun x hx d hd hxd => a3 d hd (ops_looks hx hxd)
  have done : ∀ s' e2', eff P (r.b + i.dst.getD 0) i.op (ev s.t) s.o = some e2' → e2'.apply r.b i.dst s = some s' → eff P (r.b + j.dst.getD 0) j.op (ev s'.t) s'.o = some e → e.apply r.b j.dst s' = some s2 → EL P r N all (i :: j :: l) s K := fun s' e2' g1 g2 g3 g4 => by
    rw [EL_some hig q2 q3 q4]
    refine ⟨h3, e2', s', g1, g2, ?_⟩
    rw [EL_some hjg f1 f2 f3]
    exact ⟨h1, e, s2, g3, g4, h4⟩
  have live : ∀ x : Operand, ∀ m, (ev s.t x).clean m = false → (s.o m).isSome = true := fun x m hm => ev_lives' hc x m hm
  rcases app_kind hj he with ⟨k, es, len, rfl⟩ | ⟨n, k, es, len, rfl⟩
  · obtain ⟨d, hd, hn, rfl⟩ := apply_new' hs1
    have he0 : eff P (r.b + i.dst.getD 0) i.op (ev s.t) s.o = some e2 := by
      rw [← he2]
      refine (eff_local q1 q2 ⟨fun x hx => ev_upd (hlook x hx d hd), fun x hx m hm => ?_⟩).symm
      show upd s.o (r.b + d) _ m = s.o m
      refine upd_other fun em => ?_
      have := live x m hm
      rw [em, hn] at this; cases this
    have hg := eff_good (P := P) (d := r.b + i.dst.getD 0) q1 q2 hc e2 he0
    cases e2 with
    | pure y =>
      have hs2 : s2 = ((s.setO (r.b + d) (.arr k es)).put (some d) (.own (r.b + j.dst.getD 0) len)).put i.dst y := by cases hs2; rfl
      have ho : (s.put i.dst y).o = s.o := by cases i.dst <;> rfl
      refine done (s.put i.dst y) (.pure y) he0 rfl ?_ ?_
      · rw [ho, ← he]; exact app_local hj fun x hx => ev_put (hlook2 x hx)
      · rw [hs2, hd]
        have : ((s.put i.dst y).o (r.b + d)).isNone = true := by rw [ho, hn]; rfl
        simp only [Eff.apply, this, if_true, Option.some.injEq]
        cases hid : i.dst with
        | none => rfl
        | some d2 =>
          have hne : d2 ≠ d := fun e => a2 d hd (by rw [hid, e])
          simp only [St.put, St.setO, upd_comm hne]
    | new a x =>
      obtain ⟨d2, hd2, hn2, rfl⟩ := apply_new' hs2
      have hne : d2 ≠ d := fun e => a2 d hd (by rw [hd2, e])
      have hfree := hfr d2 hd2
      refine done ((s.setO (r.b + d2) a).put (some d2) x) (.new a x) he0 (by rw [hd2]; simp [Eff.apply, hfree]) ?_ ?_
      · rw [← he]
        have e1 : eff P (r.b + j.dst.getD 0) j.op (ev ((s.setO (r.b + d2) a).put (some d2) x).t) ((s.setO (r.b + d2) a).put (some d2) x).o = eff P (r.b + j.dst.getD 0) j.op (ev s.t) ((s.setO (r.b + d2) a).put (some d2) x).o := app_local hj fun x hx => ev_upd (hlook2 x hx d2 hd2)
        rw [e1]
        refine app_os hj fun x hx m hm => ?_
        show upd s.o (r.b + d2) _ m = s.o m
        refine upd_other fun em => ?_
        have := live x m hm
        rw [em, hfree] at this; cases this
      · rw [hd]
        have : (((s.setO (r.b + d2) a).put (some d2) x).o (r.b + d)).isNone = true := by
          show (upd s.o (r.b + d2) _ (r.b + d)).isNone = true
          rw [upd_other (by omega), hn]; rfl
        simp only [Eff.apply, this, if_true, Option.some.injEq]
        simp only [St.put, St.setO]
        rw [upd_comm (f := s.t) hne, upd_comm (f := s.o) (show r.b + d2 ≠ r.b + d by omega)]
    | upd n a => exact hg.elim
    | app n a x => exact hg.elim
  · obtain ⟨d, hd, hn, rfl⟩ := apply_app' hs1
    have hcp := closed_purge hc n
    have he0 : eff P (r.b + i.dst.getD 0) i.op (ev (s.purge n).t) (s.purge n).o = some e2 := by
      rw [← he2]
      refine (eff_local q1 q2 ⟨fun x hx => ev_upd (hlook x hx d hd), fun x hx m hm => ?_⟩).symm
      show upd (s.purge n).o (r.b + d) _ m = (s.purge n).o m
      refine upd_other fun em => ?_
      have := ev_lives' hcp x m hm
      rw [em, hn] at this; cases this
    have hg := eff_good (P := P) (d := r.b + i.dst.getD 0) q1 q2 hcp e2 he0
    have hgood : ∀ y, e2 = .pure y → y.clean n = true := fun y hy => by
      subst hy
      cases hcl : y.clean n with
      | true => rfl
      | false =>
        have := hg n hcl
        rw [St.purge_o_same] at this; cases this
    rcases x_unpurge hi (fun x _ => ev_purge x) (fun m hm => St.purge_o_other s hm) he0 hgood with ⟨y, y', rfl, hy, he'⟩ | ⟨k2, es2, len2, rfl, he'⟩
    · have hs2 : s2 = (((s.purge n).setO (r.b + d) (.arr k es)).put (some d) (.own (r.b + j.dst.getD 0) len)).put i.dst y := by cases hs2; rfl
      have ho : (s.put i.dst y').o = s.o := by cases i.dst <;> rfl
      refine done (s.put i.dst y') (.pure y') he' rfl ?_ ?_
      · rw [ho, ← he]; exact app_local hj fun x hx => ev_put (hlook2 x hx)
      · rw [hs2, hd]
        have hp : ((s.put i.dst y').purge n).o = (s.purge n).o := by cases i.dst <;> rfl
        have : (((s.put i.dst y').purge n).o (r.b + d)).isNone = true := by rw [hp, hn]; rfl
        simp only [Eff.apply, this, if_true, Option.some.injEq]
        cases hid : i.dst with
        | none => rfl
        | some d2 =>
          have hne : d2 ≠ d := fun e => a2 d hd (by rw [hid, e])
          simp only [St.put, St.setO]
          congr 1
          show upd (fun i => (upd s.t d2 y' i).purge n) d _ = upd (upd (fun i => (s.t i).purge n) d _) d2 y
          rw [upd_comm (Ne.symm hne)]
          congr 1
          funext q
          unfold upd
          by_cases hq : q = d2
          · subst hq; simp [hy]
          · simp [hq]
    · obtain ⟨d2, hd2, hn2, rfl⟩ := apply_new' hs2
      have hne : d2 ≠ d := fun e => a2 d hd (by rw [hd2, e])
      have hfree := hfr d2 hd2
      have hown : (AV.own (r.b + i.dst.getD 0) len2).purge n = .own (r.b + i.dst.getD 0) len2 := by
        refine if_pos ?_
        obtain ⟨k3, es3, h3⟩ := app_own hj he
        simp only [AV.clean, hd2, Option.getD_some, bne_iff_ne, ne_eq]
        intro em
        rw [← em, hfree] at h3; cases h3
      have hnn : r.b + d2 ≠ n := fun em => by
        obtain ⟨k3, es3, h3⟩ := app_own hj he
        rw [← em, hfree] at h3; cases h3
      refine done ((s.setO (r.b + d2) (.arr k2 es2)).put (some d2) (.own (r.b + i.dst.getD 0) len2)) _ he' (by rw [hd2]; simp [Eff.apply, hfree]) ?_ ?_
      · rw [← he]
        have e1 : eff P (r.b + j.dst.getD 0) j.op (ev ((s.setO (r.b + d2) (.arr k2 es2)).put (some d2) (.own (r.b + i.dst.getD 0) len2)).t) ((s.setO (r.b + d2) (.arr k2 es2)).put (some d2) (.own (r.b + i.dst.getD 0) len2)).o = eff P (r.b + j.dst.getD 0) j.op (ev s.t) ((s.setO (r.b + d2) (.arr k2 es2)).put (some d2) (.own (r.b + i.dst.getD 0) len2)).o := app_local hj fun x hx => ev_upd (hlook2 x hx d2 hd2)
        rw [e1]
        refine app_os hj fun x hx m hm => ?_
        show upd s.o (r.b + d2) _ m = s.o m
        refine upd_other fun em => ?_
        have := live x m hm
        rw [em, hfree] at this; cases this
      · rw [hd]
        have hpo : (((s.setO (r.b + d2) (.arr k2 es2)).put (some d2) (.own (r.b + i.dst.getD 0) len2)).purge n).o = upd (s.purge n).o (r.b + d2) (some (.arr k2 es2)) := by
          funext m
          show (if m = n then none else (upd s.o (r.b + d2) (some (.arr k2 es2)) m).map (AO.purge n)) = _
          by_cases em : m = r.b + d2
          · subst em
            rw [if_neg hnn]
            unfold upd; simp [AO.purge]
          · rw [upd_other em, upd_other em]; rfl
        have hpt : (((s.setO (r.b + d2) (.arr k2 es2)).put (some d2) (.own (r.b + i.dst.getD 0) len2)).purge n).t = upd (s.purge n).t d2 (.own (r.b + i.dst.getD 0) len2) := by
          funext q
          show (upd s.t d2 (.own (r.b + i.dst.getD 0) len2) q).purge n = upd (fun i => (s.t i).purge n) d2 _ q
          unfold upd
          by_cases hq : q = d2
          · subst hq; simp [hown]
          · simp [hq]
        have : ((((s.setO (r.b + d2) (.arr k2 es2)).put (some d2) (.own (r.b + i.dst.getD 0) len2)).purge n).o (r.b + d)).isNone = true := by
          rw [hpo, upd_other (by omega), hn]; rfl
        simp only [Eff.apply, this, if_true, Option.some.injEq]
        simp only [St.put, St.setO] at hpo hpt ⊢
        rw [hpo, hpt]
        rw [upd_comm (f := (s.purge n).t) hne, upd_comm (f := (s.purge n).o) (show r.b + d2 ≠ r.b + d by omega)]
end
end AM
end
/- The abstract machine, part 48: regions that draw their order, with appends: the check. -/
section
namespace AM
open Go
section
variable {P : Program} {r : RB} {N : Nat} {all : List Oper} {s : St}
theorem stepsF {o : Oper} (h : plainOp r.v o = true) {l l' : List Oper} {K : St → Prop} (hc : s.closed) (hl : ∀ s1 : St, s1.closed → NewOnly r o s s1 → EL P r N all l s1 K → EL P r N all l' s1 K) (hE : EL P r N all (o :: l) s K) : EL P r N all (o :: l') s K := by
  obtain ⟨h1, h2, h3, h4, h5, h6⟩ := plain_spec h
  rw [EL_some h1 h4 h5 h2] at hE ⊢
  obtain ⟨g1, e, s1, g2, g3, g4⟩ := hE
  obtain ⟨k1, k2⟩ := plain_step h hc g2 g3
  exact ⟨g1, e, s1, g2, g3, hl s1 k1 k2 g4⟩
def appX (P : Program) (ops : List Oper) (oj oi : Oper) : Bool := lapp oj.op && oj.guard.isNone && xop P oi.op && oi.guard.isNone && oj.apart ops.toArray oi
theorem bubble5 {D : (Nat → AV) → Prop} {oi : Oper} {post : List Oper} {K : St → Prop} (hK : ∀ s' : St, K s' → D s'.t) : ∀ {pre : List Oper} {s : St}, s.closed → (xop P oi.op = true → FreeI r s oi) → (∀ p1 oj p2, pre = p1 ++ oj :: p2 → plainOp r.v oj = true ∧ (∀ d, oi.dst = some d → oj.dst ≠ some d) ∧ (SwapAt P r N all D oj oi (p2 ++ post) ∨ appX P all oj oi = true)) →
    EL P r N all (pre ++ oi :: post) s K → EL P r N all (oi :: (pre ++ post)) s K
  | [], _, _, _, _, h => h
  | oj :: pre, s, hc, hf, hp, h => by
    obtain ⟨hj1, hj2, hj3⟩ := hp [] oj pre rfl
    have h1 := stepsF (l' := oi :: (pre ++ post)) hj1 hc (fun s1 hc1 hn h1 => bubble5 hK hc1 (fun hx d hd => hn _ (hf hx d hd) (fun d2 hd2 e => by
      have e : d = d2 := Nat.add_left_cancel e
      subst e
      exact hj2 d hd hd2)) (fun p1 o2 p2 e => hp (oj :: p1) o2 p2 (by rw [e]; rfl)) h1) h
    rcases hj3 with hj3 | hj3
    · exact hj3 s K hc hK h1
    · simp only [appX, Bool.and_eq_true, Option.isNone_iff_eq_none] at hj3
      obtain ⟨⟨⟨⟨k1, k2⟩, k3⟩, k4⟩, k5⟩ := hj3
      exact swap_app_x k1 k2 k3 k4 k5 hc (hf k3) h1
end
section
variable {P : Program} {r : RB} {N : Nat} {ops : List Oper}
theorem el_headF {o : Oper} {l : List Oper} {s : St} {K : St → Prop} {i : Nat} {B : Nat} {S : Nat → Prop} {θ : Nat → Loc} {M : Nat → Prop} {w : World} {a : Act} {Q : Exit → Act → World → Prop}
    (hp : plainOp r.v o = true) (hi : ops[i]? = some o) (hs : SRel N B S θ M w s a) (h : EL P r N ops (o :: l) s K) :
    wpOpIn (Wd r.rd) 0 P ops.toArray Q i (fun a' w' => ∃ s1, (EL P r N ops l s1 K ∧ NewOnly r o s s1) ∧ Fin r N B S θ M w a s1 a' w') a w := by
  obtain ⟨h1, h2, h3, h4, h5, h6⟩ := plain_spec hp
  rw [EL_some h1 h4 h5 h2] at h
  obtain ⟨g1, e, s1, g2, g3, g4⟩ := h
  obtain ⟨_, k2⟩ := plain_step hp hs.cl g2 g3
  have hi' : ops.toArray[i]? = some o := by simpa using hi
  unfold wpOpIn
  simp only [hi']
  have hw : Region.wanted o (yielded ops.toArray a.tmps) = true := by unfold Region.wanted; rw [h1]
  rw [if_pos hw]
  have hEO : EO P r N o s (fun s' => EL P r N ops l s' K ∧ NewOnly r o s s') := by
    unfold EO
    rw [h2, h3, h4, h5]
    simp only [Bool.false_eq_true, if_false, true_and]
    refine ⟨g1, ?_⟩
    unfold EA
    simp only [g2, g3]
    exact ⟨g4, k2⟩
  exact EO_sound hEO B S θ M w a Q hs
theorem any_text5 {D : (Nat → AV) → Prop} {b : Nat → Nat} (hb : Masks ops b) (hpl : ∀ (i : Nat) (o : Oper), ops[i]? = some o → plainOp r.v o = true)
    (hdist : ∀ (i j : Nat) (oi oj : Oper), i ≠ j → ops[i]? = some oi → ops[j]? = some oj → ∀ d, oi.dst = some d → oj.dst ≠ some d)
    (hsw : ∀ (i j : Nat) (oi oj : Oper) (rest : List Nat), j < i → ops[i]? = some oi → ops[j]? = some oj → (b i).testBit j = false → (∀ k ∈ rest, j < k ∧ k ≠ i ∧ (k < i → (b i).testBit k = false)) → SwapAt P r N ops D oj oi (rest.filterMap (ops[·]?)) ∨ appX P ops oj oi = true)
    {K : St → Prop} (hK : ∀ s' : St, K s' → D s'.t) {Q : Exit → Act → World → Prop} :
    ∀ (fuel : Nat) (listed : Array Bool) (s : St) (B : Nat) (S : Nat → Prop) (θ : Nat → Loc) (M : Nat → Prop) (w : World) (a : Act), SRel N B S θ M w s a → listed.size = ops.length → ClosedL ops listed → (∀ i ∈ remI ops.length listed, ∀ o, ops[i]? = some o → xop P o.op = true → FreeI r s o) → (remI ops.length listed).length ≤ fuel →
      EL P r N ops ((remI ops.length listed).filterMap (ops[·]?)) s K → (∀ s' a' w', K s' → Fin r N B S θ M w a s' a' w' → Q .normal a' w') → wpAnyIn (Wd r.rd) 0 P .any ops.toArray Q fuel listed a w := by
  intro fuel
  have hready : ∀ {listed : Array Bool} {x : Nat}, x ∈ Region.ready .any ops.toArray listed → x ∈ remI ops.length listed := fun h => ((mem_ready rfl).1 h).1
  induction fuel with
  | zero =>
    intro listed s B S θ M w a hs hsz hcl hfr hf hE hQ
    have hnil : remI ops.length listed = [] := List.length_eq_zero_iff.1 (by omega)
    refine ⟨List.eq_nil_iff_forall_not_mem.2 fun x hx => ?_, ?_⟩
    · have := hready hx
      rw [hnil] at this; cases this
    · rw [hnil] at hE
      exact hQ s a w hE ⟨AdvM.refl hs, rfl⟩
  | succ fuel ih =>
    intro listed s B S θ M w a hs hsz hcl hfr hf hE hQ
    refine ⟨fun hr => ?_, fun i hi => ?_⟩
    · have hnil : remI ops.length listed = [] := by
        cases hrem : remI ops.length listed with
        | nil => rfl
        | cons x l =>
          exfalso
          have hx : x ∈ remI ops.length listed := by rw [hrem]; simp
          have hsort : (remI ops.length listed).Pairwise (· < ·) := (List.pairwise_lt_range).filter _
          rw [hrem, List.pairwise_cons] at hsort
          obtain ⟨hxn, hxl⟩ := mem_remI.1 hx
          have : x ∈ Region.ready .any ops.toArray listed := (mem_ready rfl).2 ⟨hx, ops[x], by simp [hxn], fun e he hbe => by
            have hlt := hb.lt x ops[x] (by simp [hxn]) e he hbe
            cases hl : listed.getD e.on false with
            | true => rfl
            | false =>
              exfalso
              have hen : e.on < ops.length := Nat.lt_trans hlt hxn
              have : e.on ∈ remI ops.length listed := mem_remI.2 ⟨hen, by
                rw [Array.getD_eq_getD_getElem?] at hl ⊢
                have hsz' : e.on < listed.size := by omega
                simp only [Array.getElem?_eq_getElem hsz', Option.getD_some] at hl ⊢
                exact hl⟩
              rw [hrem] at this
              rcases List.mem_cons.1 this with h | h
              · omega
              · have := hsort.1 _ h; omega⟩
          rw [hr] at this; cases this
      rw [hnil] at hE
      exact hQ s a w hE ⟨AdvM.refl hs, rfl⟩
    · obtain ⟨hrem, o, ho, hafter⟩ := (mem_ready rfl).1 hi
      obtain ⟨pre, post, he, hpre, hset⟩ := remI_split hsz hrem
      have hsort : (pre ++ i :: post).Pairwise (· < ·) := by rw [← he]; exact (List.pairwise_lt_range).filter _
      have hnl : ∀ k ∈ pre ++ i :: post, listed.getD k true = false := fun k hk => (mem_remI.1 (show k ∈ remI ops.length listed by rw [he]; exact hk)).2
      have hne : ∀ k ∈ pre ++ post, k ≠ i := fun k hk e => by
        subst e
        have h4 := List.pairwise_append.1 hsort
        rcases List.mem_append.1 hk with h | h
        · have := h4.2.2 k h k (by simp); omega
        · have := (List.pairwise_cons.1 h4.2.1).1 k h; omega
      have hfree : ∀ k ∈ pre ++ post, k < i → (b i).testBit k = false := fun k hk hki => by
        cases ht : (b i).testBit k with
        | false => rfl
        | true =>
          have h1 := masks_listed hb hcl i o ho hafter hki ht
          have h2 := hnl k (by
            rcases List.mem_append.1 hk with h | h
            · simp [h]
            · simp [h])
          rw [getD_tf h2] at h1; cases h1
      rw [he, List.filterMap_append, List.filterMap_cons] at hE
      simp only [ho] at hE
      have hE' := bubble5 hK hs.cl (fun hx => hfr i hrem o ho hx) (fun p1 oj p2 hp => by
        obtain ⟨l1, j, l2, e1, e2, e3⟩ := filterMap_split hp
        have hjp : j ∈ pre := by rw [e1]; simp
        refine ⟨hpl j oj e2, hdist i j o oj (by have := hpre j hjp; omega) ho e2, ?_⟩
        have := hsw i j o oj (l2 ++ post) (hpre j hjp) ho e2 (hfree j (by simp [hjp]) (hpre j hjp)) (fun k hk => by
          rw [e1, List.append_assoc, List.pairwise_append] at hsort
          have h3 := (List.pairwise_cons.1 hsort.2.1).1
          have hk' : k ∈ l2 ++ i :: post := by
            rcases List.mem_append.1 hk with h | h
            · simp [h]
            · simp [h]
          refine ⟨h3 k hk', hne k (by
            rcases List.mem_append.1 hk with h | h
            · rw [e1]; simp [h]
            · simp [h]), hfree k (by
            rcases List.mem_append.1 hk with h | h
            · rw [e1]; simp [h]
            · simp [h])⟩)
        rw [List.filterMap_append, e3] at this
        exact this) hE
      refine wpOpIn_mono ?_ (el_headF (hpl i o ho) ho hs hE')
      rintro a' w' ⟨s1, ⟨hE1, hN1⟩, hF⟩
      obtain ⟨θ', M', hs', hcomp⟩ := hF.comp
      refine ih _ s1 B S θ' M' w' a' hs' (by simpa using hsz) ?_ ?_ ?_ ?_ (fun s' a'' w'' hK hF' => hQ s' a'' w'' hK (hcomp _ _ _ hF'))
      · intro k ok hk hl e hek hbe
        have hmono : ∀ m, listed.getD m false = true → (listed.setIfInBounds i true).getD m false = true := fun m hm => by
          rw [Array.getD_eq_getD_getElem?] at hm ⊢
          rw [Array.getElem?_setIfInBounds]
          split
          · split <;> simp_all
          · exact hm
        by_cases hki : k = i
        · subst hki
          rw [ho] at hk; cases hk
          exact hmono _ (hafter e hek hbe)
        · have : listed.getD k false = true := by
            rw [Array.getD_eq_getD_getElem?] at hl ⊢
            rw [Array.getElem?_setIfInBounds, if_neg (Ne.symm hki)] at hl
            exact hl
          exact hmono _ (hcl k ok hk this e hek hbe)
      · intro k hk ok hok hx d hd
        rw [hset] at hk
        have hki := hne k hk
        refine hN1 _ (hfr k (by rw [he]; rcases List.mem_append.1 hk with h | h <;> simp [h]) ok hok hx d hd) fun d2 hd2 e => ?_
        have e : d = d2 := Nat.add_left_cancel e
        subst e
        exact hdist k i ok o hki hok ho d hd hd2
      · rw [hset]
        rw [he] at hf
        simp only [List.length_append, List.length_cons] at hf ⊢
        omega
      · rw [hset, List.filterMap_append]
        exact hE1
def pair5 (P : Program) (v q : List Nat) (ops tl : List Oper) (m : Nat) (i j : Nat) (oi oj : Oper) : Option (List Cf) := match pair3 P v q ops tl m i j oi oj with
  | some c => some c
  | none => if appX P ops oj oi = true then some [] else none
def row5 (P : Program) (v q : List Nat) (ops tl : List Oper) (m i : Nat) (oi : Oper) : List (Oper × Nat) → Option (List Cf)
  | [] => some []
  | (oj, j) :: r => if m.testBit j = true then row5 P v q ops tl m i oi r else
    match pair5 P v q ops tl m i j oi oj, row5 P v q ops tl m i oi r with
    | some a, some b => some (a ++ b)
    | _, _ => none
def rows5 (P : Program) (v q : List Nat) (ops tl : List Oper) (b : Nat → Nat) : List (Oper × Nat) → Option (List Cf)
  | [] => some []
  | (oi, i) :: r => match row5 P v q ops tl (b i) i oi (ops.take i).zipIdx, rows5 P v q ops tl b r with
    | some a, some c => some (a ++ c)
    | _, _ => none
def dstsOk : List Oper → Bool
  | [] => true
  | o :: l => (l.all fun p => match o.dst, p.dst with
    | some a, some b => a != b
    | _, _ => true) && dstsOk l
def chkAny5 (P : Program) (v q : List Nat) (ops : List Oper) (cfs : List Cf) : Bool := (ops.all (plainOp v)) && (dstsOk ops && masksGo ops [] fun l => maskOk ops (fun i => l.getD i 0) && match rows5 P v q ops ops (fun i => l.getD i 0) ops.zipIdx with
  | some c => cfsEq c cfs
  | none => false)
theorem dstsOk_spec : ∀ {ops : List Oper}, dstsOk ops = true → ∀ (i j : Nat) (oi oj : Oper), i ≠ j → ops[i]? = some oi → ops[j]? = some oj → ∀ d, oi.dst = some d → oj.dst ≠ some d
  | [], _, i, _, _, _, _, hi, _, _, _ => by simp at hi
  | o :: l, h, i, j, oi, oj, hij, hi, hj, d, hd => by
    simp only [dstsOk, Bool.and_eq_true] at h
    obtain ⟨h1, h2⟩ := h
    rw [List.all_eq_true] at h1
    have key : ∀ p ∈ l, ∀ d, o.dst = some d → p.dst ≠ some d := fun p hp d hd hp2 => by
      have := h1 p hp
      rw [hd, hp2] at this
      simp at this
    cases i with
    | zero => cases j with
      | zero => exact absurd rfl hij
      | succ j =>
        simp at hi; subst hi
        simp only [List.getElem?_cons_succ] at hj
        exact key oj (List.mem_of_getElem? hj) d hd
    | succ i => cases j with
      | zero =>
        simp at hj; subst hj
        simp only [List.getElem?_cons_succ] at hi
        exact fun h3 => key oi (List.mem_of_getElem? hi) d h3 hd
      | succ j =>
        simp only [List.getElem?_cons_succ] at hi hj
        exact dstsOk_spec h2 i j oi oj (by omega) hi hj d hd
theorem row5_spec {P : Program} {tl : List Oper} {v q : List Nat} {m i : Nat} {oi : Oper} : ∀ {l : List (Oper × Nat)} {c : List Cf}, row5 P v q ops tl m i oi l = some c → ∀ p ∈ l, m.testBit p.2 = false → ∃ c', pair5 P v q ops tl m i p.2 oi p.1 = some c' ∧ ∀ x ∈ c', x ∈ c
  | [], _, _, p, hp, _ => by cases hp
  | (oj, j) :: l, c, h, p, hp, ht => by
    simp only [row5] at h
    split at h
    · rename_i hj
      rcases List.mem_cons.1 hp with e | hp
      · subst e; rw [ht] at hj; cases hj
      · exact row5_spec h p hp ht
    · split at h
      · rename_i a b h1 h2
        cases h
        rcases List.mem_cons.1 hp with e | hp
        · subst e; exact ⟨a, h1, fun x hx => by simp [hx]⟩
        · obtain ⟨c', g1, g2⟩ := row5_spec h2 p hp ht
          exact ⟨c', g1, fun x hx => by simp [g2 x hx]⟩
      · cases h
theorem rows5_spec {P : Program} {tl : List Oper} {v q : List Nat} {b : Nat → Nat} : ∀ {l : List (Oper × Nat)} {c : List Cf}, rows5 P v q ops tl b l = some c → ∀ p ∈ l, ∃ c', row5 P v q ops tl (b p.2) p.2 p.1 (ops.take p.2).zipIdx = some c' ∧ ∀ x ∈ c', x ∈ c
  | [], _, _, p, hp => by cases hp
  | (oi, i) :: l, c, h, p, hp => by
    simp only [rows5] at h
    split at h
    · rename_i a d h1 h2
      cases h
      rcases List.mem_cons.1 hp with e | hp
      · subst e; exact ⟨a, h1, fun x hx => by simp [hx]⟩
      · obtain ⟨c', g1, g2⟩ := rows5_spec h2 p hp
        exact ⟨c', g1, fun x hx => by simp [g2 x hx]⟩
    · cases h
def freeAt (P : Program) (r : RB) (s : St) (ops : List Oper) : Prop := ∀ o ∈ ops, xop P o.op = true → FreeI r s o
def xdsts (P : Program) : List Oper → List Nat
  | [] => []
  | o :: l => if xop P o.op = true then (match o.dst with | some d => d :: xdsts P l | none => xdsts P l) else xdsts P l
theorem freeAt_of {s : St} : ∀ {ops : List Oper}, (∀ d ∈ xdsts P ops, s.o (r.b + d) = none) → freeAt P r s ops
  | [], _, o, ho, _, _, _ => by cases ho
  | p :: l, h, o, ho, hx, d, hd => by
    rcases List.mem_cons.1 ho with rfl | ho
    · refine h d ?_
      simp only [xdsts, hx, if_true, hd]; simp
    · refine freeAt_of (ops := l) (fun d hd => h d ?_) o ho hx d hd
      simp only [xdsts]
      split
      · split
        · exact List.mem_cons_of_mem _ hd
        · exact hd
      · exact hd
theorem awp_any5 {id : Nat} {st : St} {Q : AEx → St → Prop} (cfs : List Cf) (hm : P.follows .mixedOrders = true) (hchk : chkAny5 P r.v r.q ops cfs = true) (hfr : ∀ d ∈ xdsts P ops, st.o (r.b + d) = none) (h : EL P r N ops ops st (fun s => (cfs.all fun c => c.ok s.t) = true ∧ Q .normal s)) : AWP P r N (.region id ops.toArray true) st Q := by
  unfold chkAny5 at hchk
  simp only [Bool.and_eq_true] at hchk
  obtain ⟨hpl, hds, hchk⟩ := hchk
  rw [List.all_eq_true] at hpl
  obtain ⟨l, hl⟩ := masksGo_k hchk
  rw [Bool.and_eq_true] at hl
  obtain ⟨hl1, hl2⟩ := hl
  clear hchk
  have hrows : rows5 P r.v r.q ops ops (fun i => l.getD i 0) ops.zipIdx = some cfs := by
    revert hl2
    cases rows5 P r.v r.q ops ops (fun i => l.getD i 0) ops.zipIdx with
    | none => intro h; cases h
    | some c => intro h; rw [cfsEq_eq h]
  generalize hbb : (fun i => l.getD i 0) = bb at *
  clear hl2
  intro B S θ M w a hs
  refine wpIn_region_any hm ?_
  have hrem : remI ops.length (Array.replicate ops.length false) = List.range ops.length := remI_start _
  refine any_text5 (D := fun f => ∀ x ∈ cfs, x.ok f = true) (K := fun s => (cfs.all fun c => c.ok s.t) = true ∧ Q .normal s) (maskOk_spec hl1) (fun i o ho => hpl o (List.mem_of_getElem? ho)) (dstsOk_spec hds) (fun i j oi oj rest hji hi hj hbit hrest => ?_) (fun s' hs' => List.all_eq_true.1 hs'.1) ops.toArray.size (Array.replicate ops.toArray.size false) st B S θ M _ a (hs.drawn _) (by simp) (fun k o hk hL => ?_) (fun i _ o ho => freeAt_of hfr o (List.mem_of_getElem? ho)) ?_ ?_ (fun s' a' w' hk hF => ⟨.normal, s', rfl, hk.2, ?_⟩)
  · obtain ⟨c1, g1, g2⟩ := rows5_spec hrows (oi, i) (List.mem_zipIdx_iff_getElem?.2 hi)
    obtain ⟨c2, g3, g4⟩ := row5_spec g1 (oj, j) (List.mem_zipIdx_iff_getElem?.2 (by rw [List.getElem?_take, if_pos hji]; exact hj)) hbit
    unfold pair5 at g3
    split at g3
    · rename_i c3 hc3
      cases g3
      exact .inl (pair3_spec (b := bb) hc3 (fun x hx => g2 x (g4 x hx)) hji hi hj hbit hrest (fun k _ o ho => List.mem_of_getElem? ho)).2
    · split at g3
      · rename_i hx; exact .inr hx
      · cases g3
  · simp only [Array.getD_eq_getD_getElem?, Array.getElem?_replicate] at hL
    split at hL <;> simp at hL
  · simp only [List.size_toArray]; rw [hrem]; simp
  · simp only [List.size_toArray]; rw [hrem, range_filterMap]; exact h
  · obtain ⟨⟨θ', M', h1, h2, h3, h4⟩, h5⟩ := hF
    exact ⟨⟨θ', M', h1, ⟨h2.size, h2.same, h2.os, h2.tape, h2.output⟩, h3, h4⟩, h5⟩
def freeL (os : Nat → Option AO) (b : Nat) : List Nat → Prop
  | [] => True
  | d :: l => os (b + d) = none ∧ freeL os b l
theorem freeL_mem {os : Nat → Option AO} {b : Nat} : ∀ {l : List Nat}, freeL os b l → ∀ d ∈ l, os (b + d) = none
  | [], _, d, hd => by cases hd
  | x :: l, h, d, hd => by
    rcases List.mem_cons.1 hd with rfl | hd
    · exact h.1
    · exact freeL_mem h.2 d hd
theorem xdsts_sub : ∀ {ops : List Oper}, ∀ d ∈ xdsts P ops, d ∈ ops.filterMap (·.dst)
  | [], d, hd => by cases hd
  | o :: l, d, hd => by
    have ih := xdsts_sub (ops := l) d
    simp only [xdsts] at hd
    rw [List.filterMap_cons]
    split at hd
    · split at hd
      · rename_i d2 hd2
        rw [hd2]
        rcases List.mem_cons.1 hd with rfl | hd
        · simp
        · exact List.mem_cons_of_mem _ (ih hd)
      · rename_i hd2
        rw [hd2]; exact ih hd
    · cases o.dst with
      | none => exact ih hd
      | some d2 => exact List.mem_cons_of_mem _ (ih hd)
theorem awp_any5' {id : Nat} {st : St} {Q : AEx → St → Prop} (cfs : List Cf) (ds : List Nat) (hm : P.follows .mixedOrders = true) (hchk : chkAny5 P r.v r.q ops cfs = true) (hds : ops.filterMap (·.dst) = ds) (hfr : freeL st.o r.b ds) (h : EL P r N ops ops st (fun s => (cfs.all fun c => c.ok s.t) = true ∧ Q .normal s)) : AWP P r N (.region id ops.toArray true) st Q :=
  awp_any5 cfs hm hchk (fun d hd => freeL_mem hfr d (by rw [← hds]; exact xdsts_sub d hd)) h
end
end AM
end
/- The law of more. -/
section
namespace AM.Try
open Go AM AM.Duty
open Nat renaming reduceLT → sA, reduceAdd → sB, reduceMul → sC, reduceSub → sD, reduceLeDiff → sE, reduceEqDiff → sF, reduceBEq → sG
open Int renaming reduceAdd → sH, reduceSub → sI, reduceMul → sJ, reduceLT → sK, reduceLE → sL, reduceNeg → sM, reduceToNat → sN, reduceEq → sO
set_option maxHeartbeats 8000000
set_option maxRecDepth 100000
theorem accIn_of {x : Acc} (hf : faultS x = 0) : AccIn x := by
  obtain ⟨z1, z2, z3, z4, z5, z6⟩ := fault_zero hf
  simp only [inB, Bool.and_eq_true, decide_eq_true_eq] at z3
  have key : ∀ {l : List Rate} {p : Int}, ratesS x.last p l = true → ∀ r ∈ l, inR r.day = true ∧ inR r.pence = true := by
    intro l
    induction l with
    | nil => intro p _ r hr; cases hr
    | cons y l ih =>
      intro p h r hr
      simp only [ratesS, Bool.and_eq_true, inB, decide_eq_true_eq] at h
      rcases List.mem_cons.1 hr with rfl | hr
      · simp only [inR, Bool.and_eq_true, decide_eq_true_eq]; omega
      · exact ih h.2.2.2 r hr
  refine ⟨?_, key z4, fun e he => ?_⟩
  · simp only [inR, Bool.and_eq_true, decide_eq_true_eq]; omega
  · have hv := List.all_eq_true.1 z5 e he
    have h1 := isEntry_small hv
    have h2 := isEntry_pence hv
    have h3 := isEntry_parts hv
    simp only [inR, Bool.and_eq_true, decide_eq_true_eq]; omega
theorem c54i (a : Acc) (day : Int) (h0 : 0 ≤ day) (h1 : day < 1000) (hl : a.rates.length < 1000000) : PCall Go.Proofs.Try.prog 54 [avA a, i64 day] (i64 (ratedX a.rates (day.toNat + 1))) := by
  have := c54 a day.toNat (by omega) hl
  rwa [Int.toNat_of_nonneg h0] at this
theorem con_small {a : Acc} (hf : faultS a = 0) {t : List Int} (hl : listedS a.entries t = true) {k : Nat} (hk : k < a.entries.length) : (0 ≤ t.getD k 0 * ratedX a.rates ((getE a.entries k).day.toNat + 1) ∧ t.getD k 0 * ratedX a.rates ((getE a.entries k).day.toNat + 1) ≤ 5000) ∧ -105000 ≤ conS a.rates (getE a.entries k) (t.getD k 0) ∧ conS a.rates (getE a.entries k) (t.getD k 0) ≤ 105000 := by
  have hv := List.all_eq_true.1 (fault_zero hf).2.2.2.2.1 _ (getD_mem default hk)
  have h1 : 0 ≤ (getE a.entries k).lo ∧ (getE a.entries k).lo ≤ (getE a.entries k).hi ∧ (getE a.entries k).hi ≤ 50 := isEntry_small hv
  have h2 : -100000 ≤ (getE a.entries k).pence ∧ (getE a.entries k).pence ≤ 100000 := isEntry_pence hv
  have h3 := (listed_unit hl).2 k hk
  have h4 := rated_range (fault_zero hf).2.2.2.1 ((getE a.entries k).day.toNat + 1)
  have h5 := worth_bound (u := t.getD k 0) (by omega) (by omega) h4.1 h4.2
  refine ⟨h5, ?_⟩
  unfold conS
  split
  · omega
  · split <;> omega
theorem sum_small {a : Acc} (hf : faultS a = 0) {t : List Int} (hl : listedS a.entries t = true) : ∀ {k : Nat}, k ≤ a.entries.length → -(105000 * (k : Int)) ≤ sumS a.rates (a.entries.take k) (t.take k) ∧ sumS a.rates (a.entries.take k) (t.take k) ≤ 105000 * (k : Int)
  | 0, _ => by simp [sumS]
  | k + 1, hk => by
    have ih := sum_small hf hl (k := k) (by omega)
    have h1 := (con_small hf hl (k := k) (by omega)).2
    have h2 := (listed_unit hl).1
    rw [sumS_take (by omega) (by omega)]
    omega
theorem more_play {x : Acc} (hf : faultS x = 0) (hn : noSt x.entries) {i : Int} (hi : x.interest ≤ i) (hi2 : i ≤ 200) {t : List Int} (hl : listedS x.entries t = true) (hd : isTruth x t = true) : playA (inA x i) t = .tup [isl (debtsS (inA x i) t []).1, i64 0] := by
  have hz := (fault_zero hf).2.2.1
  simp only [inB, Bool.and_eq_true, decide_eq_true_eq] at hz
  have h1 := (more_interest hn (by omega) hi t).2
  unfold isTruth at hd
  rw [playA_eq, if_pos (fault_inA hf (by omega) hi2), if_pos hl, ← h1, hd]; rfl
theorem paid_play {x : Acc} (hf : faultS x = 0) (hn : noSt x.entries) {k v : Int} (h0 : 0 ≤ k) (h1 : k ≤ x.last) (hv : 1 ≤ v) (hv2 : v ≤ 100000) {t : List Int} (hl : listedS x.entries t = true) (hd : isTruth x t = true) :
    playA (paA x k v) (t ++ [0]) = if x.entries.length < 8 then .tup [isl (debtsS (paA x k v) (t ++ [0]) []).1, i64 0] else .tup [nilS, i64 3] := by
  have hz := (fault_zero hf).2.2.1
  have hlE := (fault_zero hf).2.1
  simp only [inB, Bool.and_eq_true, decide_eq_true_eq] at hz
  have h2 := (more_paid hn (by omega) (k := k) (v := v) (by omega) (listed_unit hl).1).2
  unfold isTruth at hd
  by_cases h8 : x.entries.length < 8
  · rw [if_pos h8, playA_eq, if_pos (fault_paid hf h8 h0 h1 hv hv2), if_pos ((st_listed ⟨rfl, rfl⟩).2 ⟨t, rfl, hl⟩), h2, hd]; rfl
  · have hf3 : faultS (paA x k v) = 3 := fault_many (by show 8 < (x.entries ++ _).length; simp; omega)
    rw [if_neg h8, playA_eq, if_neg (by rw [hf3]; decide), hf3]
theorem c11 (a : Acc) (d m c e : Nat) (_ : AccIn a) (h1 : d < 65536) (h2 : m < 256) (h3 : c < 256) (h4 : e < 65536) : PCall Go.Proofs.Try.prog 11 [avA a, .p (.val (.int .u16 (d : Int))), .p (.val (.int .u8 (m : Int))), .p (.val (.int .u8 (c : Int))), .p (.val (.int .u16 (e : Int)))] (bl true) := by
  refine pcall_mk (v := []) (q := []) (N := 213) (rs := [.tmp 10]) Go.Proofs.Try.func11 rfl rfl rfl rfl rfl ?_
  have hwr : IntKind.i64.wrap (d : Int) = (d : Int) := wrap64 (by omega) (by omega)
  have hwr2 : IntKind.i64.wrap (m : Int) = (m : Int) := wrap64 (by omega) (by omega)
  have hwr3 : IntKind.i64.wrap (c : Int) = (c : Int) := wrap64 (by omega) (by omega)
  have hwr4 : IntKind.i64.wrap (e : Int) = (e : Int) := wrap64 (by omega) (by omega)
  cases hr : readyS a
  all_goals
    first
    | (have hrr : thinS a = true ∧ faultS a = 0 := by simpa [readyS] using hr
       obtain ⟨ht, hf⟩ := hrr
       obtain ⟨hl1, hl2⟩ := thin_len ht
       have hla := last_in hf
       have hxf : faultS (plainA a) = 0 := fault_woR hf _
       have hn := plain_noSt a
       have c53a := c53 a hl2
       have hxl : (plainA a).last = a.last := rfl
       have hxr : (plainA a).rates.length ≤ 7 := hl1
       generalize plainA a = x at hxf hn c53a hxl hxr
       have hxe := (fault_zero hxf).2.1
       have hm : ((a.last + 1).toNat : Int) = a.last + 1 := Int.toNat_of_nonneg (by omega)
       have hmx : ((x.last + 1).toNat : Int) = x.last + 1 := Int.toNat_of_nonneg (by omega)
       have hz := (fault_zero hxf).2.2.1
       simp only [inB, Bool.and_eq_true, decide_eq_true_eq] at hz
       have pN : playN x d = .tup [isl (unitsN x d), if isTruth x (unitsN x d) = true then isl (debtsS x (unitsN x d) []).1 else nilS, bl (isTruth x (unitsN x d)), bl true] := rfl
       have hthx : thinS x = true := by unfold thinS; rw [decide_eq_true hxr, decide_eq_true (by omega)]; rfl
       have hdl := debts_full (a := x) (unitsN x d) []
       have htl : (unitsN x d).length = x.entries.length := nth_len _ _
       have hls : listedS x.entries (unitsN x d) = true := by rw [← listed_eq]; exact nth_listed (lo_le hxf)
       have c47x := c47 x d hxf hthx (accIn_of hxf) (by omega) (by omega)
       generalize unitsN x d = t at pN hdl htl hls c47x
       have hmod : (c : Int) % (a.last + 1) = ((c % (a.last + 1).toNat : Nat) : Int) := by rw [Int.natCast_emod, hm]
       have hkm : c % (a.last + 1).toNat < (a.last + 1).toNat := Nat.mod_lt _ (by omega)
       generalize c % (a.last + 1).toNat = k at hkm hmod
       obtain ⟨i, hi⟩ : ∃ i : Int, i = if x.interest + (m : Int) % 50 < 200 then x.interest + (m : Int) % 50 else 200 := ⟨_, rfl⟩
       have hi1 : x.interest ≤ i ∧ i ≤ 200 := by rw [hi]; split <;> omega
       obtain ⟨v, hv⟩ : ∃ v : Int, v = 1 + (e : Int) % 9000 := ⟨_, rfl⟩
       have hv1 : 1 ≤ v ∧ v ≤ 100000 := by omega
       have hs1 : x.entries.map encE ++ [[iv 1, iv (k : Int), iv 0, iv 0, iv v]] = (paA x k v).entries.map encE := by rw [List.map_append]; rfl
       have hsl : (paA x k v).entries.length = x.entries.length + 1 := by show (x.entries ++ _).length = _; simp
       have htk : ((paA x k v).entries.map encE).take (x.entries.length + 1) = (paA x k v).entries.map encE := List.take_of_length_le (by rw [List.length_map, hsl]; exact Nat.le_refl _)
       have ht0 : t.map encI ++ [[iv 0]] = (t ++ [0]).map encI := by rw [List.map_append]; rfl
       have htU : ((t ++ [0]).map encI).take (x.entries.length + 1) = (t ++ [0]).map encI := List.take_of_length_le (by simp; omega)
       have hlU : (t ++ [0]).length = x.entries.length + 1 := by simp; omega
       have htT : (t.map encI).take x.entries.length = t.map encI := List.take_of_length_le (by simp; omega)
       have hch := charged hxf hn hls
       have hin2 : ∀ f ∈ (inA x i).entries, inR f.lo = true ∧ inR f.hi = true := fun f h => valid_in hxf f h
       have hin3 : ∀ f ∈ (paA x k v).entries, inR f.lo = true ∧ inR f.hi = true := fun f hf2 => by
         rcases List.mem_append.1 (show f ∈ x.entries ++ _ from hf2) with h | h
         · exact valid_in hxf f h
         · rw [List.mem_singleton] at h; subst h; exact ⟨rfl, rfl⟩
       cases hd : isTruth x t <;> by_cases hi0 : x.interest = 0 <;> by_cases h8 : x.entries.length < 8)
    | (have hf := hwr; have hm := hwr; have hmx := hwr; have pN := hwr; have hdl := hwr; have htl := hwr; have hmod := hwr; have hi : (2 : Int) = 1 + 1 := rfl; have hv : (2 : Int) = 1 + 1 := rfl; have hs1 := hwr; have hsl := hwr; have htk := hwr; have ht0 := hwr; have htU := hwr; have hlU := hwr; have htT := hwr; have hd := hwr; have hi0 := hwr; have h8 := hwr)
  all_goals
    first
    | (have pM := more_play hxf hn hi1.1 hi1.2 hls hd
       have gM := (more_interest hn (by omega) hi1.1 t).1
       have gL := leL_len gM
       have pP := paid_play hxf hn (k := (k : Int)) (by omega) (by omega) hv1.1 hv1.2 hls hd
       have gN := (more_paid hn (by omega) (k := (k : Int)) (v := v) (by omega) htl).1
       have gK := leL_len gN
       have hge : ((debtsS x t []).1.getD x.last.toNat 0 < sumS x.rates x.entries t) = False := eq_false (by omega))
    | (have pM := hwr; have gL := hwr; have pP := hwr; have gK := hwr; have hge := hwr)
    first
    | (have hch2 := hch.2 hi0
       have hi0e : (x.interest = 0) = True := eq_true hi0)
    | (have hi0e : (x.interest = 0) = False := eq_false hi0
       have hch2 := hwr)
    | (have hch2 := hwr; have hi0e := hwr)
    first
    | (have hx := h8
       rw [if_pos hx] at pP
       obtain ⟨zp, hzp⟩ : ∃ zp : PV, zp = .sl ((debtsS (paA x k v) (t ++ [0]) []).1.map encI) := ⟨_, rfl⟩
       have h8i : ((x.entries.length : Int) + 1 ≤ 8) = True := eq_true (by omega))
    | (have hx := h8
       rw [if_neg hx] at pP
       obtain ⟨zp, hzp⟩ : ∃ zp : PV, zp = .val (.slice none 0 0) := ⟨_, rfl⟩
       have h8i : ((x.entries.length : Int) + 1 ≤ 8) = False := eq_false (by omega))
    | (have hzp := hwr; have h8i := hwr)
  all_goals
    refine awp_seq_k fun K1 hK1 => ?_
    refine awp_ops ?_
    simp (disch := omega) only [amL, sA, sB, ↓reduceIte]
    refine hK1 _ ?_
    refine awp_seq_k fun K2 hK2 => ?_
    refine awp_seq_k fun K3 hK3 => ?_
    refine awp_ops ?_
    simp (disch := omega) only [amL, amT, sA, sB, sF, ↓reduceIte]
    repeat' first | (refine EC_intro (by kernel_rfl) rfl (c46 a) (by first | exact .inl rfl | exact .inr (.inl rfl)) ?_ ; simp (disch := omega) only [hr, amL, sA, ↓reduceIte])
    refine hK3 _ ?_
    refine awp_cond rfl (fun h => ?_) (fun h => ?_)
    ·first
     | exact Bool.noConfusion h
     |skip
      try simp only [] at h
      refine awp_seq_k fun K4 hK4 => ?_
      refine awp_ops ?_
      simp (disch := omega) only [amL]
      repeat' first | (refine EC_intro (by kernel_rfl) rfl (c20) (by first | exact .inl rfl | exact .inr (.inl rfl)) ?_ ; simp (disch := omega) only [amL, sA, ↓reduceIte])
      refine hK4 _ ?_
      refine awp_ret ?_
      try simp (disch := omega) only [amL, ↓reduceIte]
      all_goals first | rfl | (exfalso; omega) | (omega)
    ·first
     | exact Bool.noConfusion h
     |skip
      try simp only [] at h
      refine awp_skip ?_
      refine hK2 _ ?_
      refine awp_seq_k fun K5 hK5 => ?_
      refine awp_ops ?_
      simp (disch := omega) only [amL, amT, sA, sB, sF, ↓reduceIte]
      repeat' first | (refine EC_intro (by kernel_rfl) rfl (c53a) (by first | exact .inl rfl | exact .inr (.inl rfl)) ?_ ; simp (disch := omega) only [amL, amT, sA, sB, sF, ↓reduceIte])
      refine hK5 _ ?_
      refine awp_seq_k fun K6 hK6 => ?_
      refine awp_any3 [.sto [11] 12] (by kernel_rfl) (by kernel_rfl) ?_
      simp (disch := omega) only [amL, amT, sA, sB, sF, ↓reduceIte]
      refine ⟨by simp [Cf.ok, nameOf, T, AV.known, AV.clean], ?_⟩
      all_goals
       skip
       refine hK6 _ ?_
       refine awp_seq_k fun K7 hK7 => ?_
       refine awp_ops ?_
       simp (disch := omega) only [hwr2, ← hi, amL, amT, sA, sB, sE, sF, sO, ↓reduceIte, reduceCtorEq]
       refine hK7 _ ?_
       refine awp_seq_k fun K8 hK8 => ?_
       refine awp_any5' [] [43, 44, 45, 46, 47, 48, 49, 50, 51, 52, 53, 54, 55, 56, 57, 58, 59, 60] (by kernel_rfl) (by kernel_rfl) rfl (by repeat' constructor) ?_
       simp (disch := omega) only [hs1, hwr3, hwr4, hmod, ← hv, encE_all, amL, amT, sA, sB, sC, sE, sF, sO, ↓reduceIte, reduceCtorEq]
       refine hK8 _ ?_
       refine awp_seq_k fun K9 hK9 => ?_
       refine awp_ops ?_
       simp (disch := omega) only [pM, hwr, amL, amT, sA, sB, sF, ↓reduceIte, reduceCtorEq]
       repeat' first | (refine EC_intro (by kernel_rfl) rfl (c47x) (by first | exact .inl rfl | exact .inr (.inl rfl)) ?_ ; simp (disch := omega) only [pN, hd, amL, sA, sF, ↓reduceIte])
       refine hK9 _ ?_
       refine awp_seq_k fun K10 hK10 => ?_
       refine awp_seq_k fun K11 hK11 => ?_
       refine awp_ops ?_
       simp (disch := omega) only [amL, sA, sF, ↓reduceIte]
       repeat' first | (refine EG_dec (fun h => ?_) (fun h => ?_) <;> simp (disch := omega) only [h, pN, hr, hf, hm, hmx, hdl, htl, hd, pM, pP, gL, gK, hge, h8i, hzp, hwr, hwr2, hwr3, hwr4, hmod, ← hi, ← hv, encE_all, isl_all, encE_getD, List.length_range, ne_eq, amL, amT, sA, sB, sC, sD, sE, sF, sG, sH, sI, sJ, sK, sL, sM, sN, sO, ↓reduceIte, reduceCtorEq]) | (refine EG_cases (fun h => ?_) (fun h => ?_) <;> simp (disch := omega) only [h, pN, hr, hf, hm, hmx, hdl, htl, hd, pM, pP, gL, gK, hge, h8i, hzp, hwr, hwr2, hwr3, hwr4, hmod, ← hi, ← hv, encE_all, isl_all, encE_getD, List.length_range, ne_eq, amL, amT, sA, sB, sC, sD, sE, sF, sG, sH, sI, sJ, sK, sL, sM, sN, sO, ↓reduceIte, reduceCtorEq])
       all_goals
        skip
        refine hK11 _ ?_
        refine awp_cond rfl (fun h => ?_) (fun h => ?_)
        ·first
         | exact Bool.noConfusion h
         |skip
          try simp only [] at h
          refine awp_seq_k fun K12 hK12 => ?_
          refine awp_ops ?_
          simp (disch := omega) only [amL, sA, sF, ↓reduceIte]
          repeat' first | (refine EG_dec (fun h => ?_) (fun h => ?_) <;> simp (disch := omega) only [h, pN, hr, hf, hm, hmx, hdl, htl, hd, pM, pP, gL, gK, hge, h8i, hzp, hwr, hwr2, hwr3, hwr4, hmod, ← hi, ← hv, encE_all, isl_all, encE_getD, List.length_range, ne_eq, amL, amT, sA, sB, sC, sD, sE, sF, sG, sH, sI, sJ, sK, sL, sM, sN, sO, ↓reduceIte, reduceCtorEq]) | (refine EG_cases (fun h => ?_) (fun h => ?_) <;> simp (disch := omega) only [h, pN, hr, hf, hm, hmx, hdl, htl, hd, pM, pP, gL, gK, hge, h8i, hzp, hwr, hwr2, hwr3, hwr4, hmod, ← hi, ← hv, encE_all, isl_all, encE_getD, List.length_range, ne_eq, amL, amT, sA, sB, sC, sD, sE, sF, sG, sH, sI, sJ, sK, sL, sM, sN, sO, ↓reduceIte, reduceCtorEq]) | (refine EC_intro (by kernel_rfl) rfl (c20) (by first | exact .inl rfl | exact .inr (.inl rfl)) ?_ ; simp (disch := omega) only [amL, sA, sF, ↓reduceIte])
          all_goals
           skip
           refine hK12 _ ?_
           refine awp_ret ?_
           try simp (disch := omega) only [amL, ↓reduceIte]
           all_goals first | rfl | (exfalso; omega) | (omega)
        ·first
         | exact Bool.noConfusion h
         |skip
          try simp only [] at h
          refine awp_skip ?_
          refine hK10 _ ?_
          refine awp_seq_k fun K13 hK13 => ?_
          refine awp_ops ?_
          simp (disch := omega) only [amL, sA]
          refine hK13 _ ?_
          refine awp_seq_k fun K14 hK14 => ?_
          refine awp_seq_k fun K15 hK15 => ?_
          refine awp_ops ?_
          simp (disch := omega) only [amL, sA]
          refine hK15 _ ?_
          refine awp_block ?_
          skip
          refine awp_loop_k (α := Nat) (fun j => ⟨T [(1, .p (.val (.int .u16 (d : Int)))), (11, .ptr 11 0), (12, .ptr 12 0), (13, .ptr 13 0), (14, isl t), (15, isl (debtsS x t []).1), (18, i64 (sumS x.rates (x.entries.take j) (t.take j))), (19, i64 (j : Int))], O [(11, .cells (cA x)), (12, .cells (cA (inA x i))), (13, .cells [i64 x.last, i64 x.interest, i64 x.bond, i64 x.purse, .p (.sl (x.rates.map encR)), .own 59 (x.entries.length + 1)]), (59, .arr 5 ((paA x k v).entries.map encE))]⟩) (fun j => x.entries.length - j) (fun j => j ≤ x.entries.length) 0 ?_ ?_ (fun j hx16 K16 hK16 => ?_)
          · simp
          · refine le_mk ?_ ?_ ?_ ?_ <;> (try simp (disch := omega) only [amL, sF, sG, ↓reduceIte, reduceCtorEq]); all_goals first | rfl | (omega)
          have hj := hx16; have hss := sum_small hxf hls (k := j) hj
          refine awp_seq_k fun K17 hK17 => ?_
          refine awp_seq_k fun K18 hK18 => ?_
          refine awp_ops ?_
          simp (disch := omega) only [htl, amL, amT, sA, sF, ↓reduceIte]
          refine hK18 _ ?_
          refine awp_cond rfl (fun h => ?_) (fun h => ?_)
          ·first
           | exact Bool.noConfusion h
           |skip
            try simp only [decide_eq_true_eq] at h
            refine awp_skip ?_
            refine hK17 _ ?_
            refine awp_seq_k fun K19 hK19 => ?_
            refine awp_block ?_
            refine awp_seq_k fun K20 hK20 => ?_
            refine awp_ops ?_
            simp (disch := omega) only [encE_getD, amL, amT, sA, sB, sF, ↓reduceIte, reduceCtorEq]
            refine hK20 _ ?_
            refine awp_seq_k fun K21 hK21 => ?_
            refine awp_any2 (by kernel_rfl) (by kernel_rfl) ?_
            have hj2 : j < x.entries.length := by omega
            have hcs := con_small hxf hls hj2
            have hve := List.all_eq_true.1 (fault_zero hxf).2.2.2.2.1 _ (getD_mem default hj2)
            have hdy0 : 0 ≤ (getE x.entries j).day ∧ (getE x.entries j).day ≤ x.last := (isEntry_parts hve).2
            have hdy : 0 ≤ (getE x.entries j).day ∧ (getE x.entries j).day < 1000 := ⟨hdy0.1, by omega⟩
            have hkd : 0 ≤ (getE x.entries j).kind ∧ (getE x.entries j).kind ≤ 3 := (isEntry_parts hve).1
            have hpe : -100000 ≤ (getE x.entries j).pence ∧ (getE x.entries j).pence ≤ 100000 := isEntry_pence hve
            have hww : IntKind.i64.wrap (t.getD j 0 * ratedX x.rates ((getE x.entries j).day.toNat + 1)) = t.getD j 0 * ratedX x.rates ((getE x.entries j).day.toNat + 1) := wrap64 (by omega) (by omega)
            simp (disch := omega) only [htl, amL, amT, sA, sB, sF, ↓reduceIte, reduceCtorEq]
            repeat' first | (refine EC_intro (by kernel_rfl) rfl (c54i x _ hdy.1 hdy.2 (by omega)) (by first | exact .inl rfl | exact .inr (.inl rfl)) ?_ ; simp (disch := omega) only [hww, amL, amT, sA, sF, ↓reduceIte])
            refine hK21 _ ?_
            refine awp_seq_k fun K22 hK22 => ?_
            refine awp_seq_k fun K23 hK23 => ?_
            refine awp_ops ?_
            simp (disch := omega) only [amL, amT, sA, sF, ↓reduceIte, reduceCtorEq]
            refine hK23 _ ?_
            refine awp_cond rfl (fun h => ?_) (fun h => ?_)
            ·first
             | exact Bool.noConfusion h
             |skip
              try simp only [decide_eq_true_eq] at h
              refine awp_ops ?_
              simp (disch := omega) only [amL, amT, sA, sF, ↓reduceIte]
              refine hK22 _ ?_
              refine awp_seq_k fun K24 hK24 => ?_
              refine awp_ops ?_
              simp (disch := omega) only [amL, amT, sA, sF, ↓reduceIte, reduceCtorEq]
              refine hK24 _ ?_
              refine awp_cond rfl (fun h => ?_) (fun h => ?_)
              ·first
               | exact Bool.noConfusion h
               |skip
                try simp only [decide_eq_true_eq] at h
                refine awp_ops ?_
                simp (disch := omega) only [amL, amT, sA, sF, ↓reduceIte, reduceCtorEq]
                refine hK19 _ ?_
                refine awp_ops ?_
                simp (disch := omega) only [amL, amT, sA, sF, ↓reduceIte]
                refine hK16 (j+1) _ ?_ ?_ (le_mk ?_ ?_ ?_ ?_)
                all_goals (try simp (disch := omega) only [amL, sF, sG, ↓reduceIte])
                all_goals first | omega | (exfalso; omega) | (rw [sumS_take hj2 (by omega), conS, if_pos (by assumption)]; done) | (rw [sumS_take hj2 (by omega), conS, if_neg (by assumption), if_pos (by assumption), Int.sub_eq_add_neg]; done) | (omega)
              ·first
               | exact Bool.noConfusion h
               |skip
                try simp only [decide_eq_false_iff_not] at h
                refine awp_skip ?_
                refine hK19 _ ?_
                refine awp_ops ?_
                simp (disch := omega) only [amL, amT, sA, sF, ↓reduceIte]
                refine hK16 (j+1) _ ?_ ?_ (le_mk ?_ ?_ ?_ ?_)
                all_goals (try simp (disch := omega) only [amL, sF, sG, ↓reduceIte])
                all_goals first | omega | (exfalso; omega) | (rw [sumS_take hj2 (by omega), conS, if_pos (by assumption)]; done) | (rw [sumS_take hj2 (by omega), conS, if_neg (by assumption), if_pos (by assumption), Int.sub_eq_add_neg]; done) | (omega)
            ·first
             | exact Bool.noConfusion h
             |skip
              try simp only [decide_eq_false_iff_not] at h
              refine awp_skip ?_
              refine hK22 _ ?_
              refine awp_seq_k fun K25 hK25 => ?_
              refine awp_ops ?_
              simp (disch := omega) only [amL, amT, sA, sF, ↓reduceIte, reduceCtorEq]
              refine hK25 _ ?_
              refine awp_cond rfl (fun h => ?_) (fun h => ?_)
              ·first
               | exact Bool.noConfusion h
               |skip
                try simp only [decide_eq_true_eq] at h
                refine awp_ops ?_
                simp (disch := omega) only [amL, amT, sA, sF, ↓reduceIte, reduceCtorEq]
                refine hK19 _ ?_
                refine awp_ops ?_
                simp (disch := omega) only [amL, amT, sA, sF, ↓reduceIte]
                refine hK16 (j+1) _ ?_ ?_ (le_mk ?_ ?_ ?_ ?_)
                all_goals (try simp (disch := omega) only [amL, sF, sG, ↓reduceIte])
                all_goals first | omega | (exfalso; omega) | (rw [sumS_take hj2 (by omega), conS, if_pos (by assumption)]; done) | (rw [sumS_take hj2 (by omega), conS, if_neg (by assumption), if_pos (by assumption), Int.sub_eq_add_neg]; done) | (omega)
              ·first
               | exact Bool.noConfusion h
               |skip
                try simp only [decide_eq_false_iff_not] at h
                refine awp_skip ?_
                refine hK19 _ ?_
                refine awp_ops ?_
                simp (disch := omega) only [amL, amT, sA, sF, ↓reduceIte]
                refine hK16 (j+1) _ ?_ ?_ (le_mk ?_ ?_ ?_ ?_)
                all_goals (try simp (disch := omega) only [amL, sF, sG, ↓reduceIte])
                all_goals first | omega | (exfalso; omega) | (rw [sumS_take hj2 (by omega), conS, if_pos (by assumption)]; done) | (rw [sumS_take hj2 (by omega), conS, if_neg (by assumption), if_pos (by assumption), Int.sub_eq_add_neg]; done) | (omega)
          ·first
           | exact Bool.noConfusion h
           |skip
            try simp only [decide_eq_false_iff_not] at h
            refine awp_exit ?_
            refine hK14 _ ?_
            refine awp_seq_k fun K26 hK26 => ?_
            refine awp_ops ?_
            have hke : sumS x.rates (x.entries.take j) (t.take j) = sumS x.rates x.entries t := (by rw [List.take_of_length_le (show x.entries.length ≤ j by omega), List.take_of_length_le (show t.length ≤ j by omega)])
            simp (disch := omega) only [hke, amL, amT, sA, sB, sF, ↓reduceIte]
            repeat' first | (refine EF_intro (by kernel_rfl) rfl (by first | exact c22f (inA x i) (Nat.lt_of_le_of_lt hxr (by decide)) (Nat.lt_of_le_of_lt hxe (by decide)) | exact c22f (paA x k v) (Nat.lt_of_le_of_lt hxr (by decide)) (by rw [hsl]; omega)) ?_ ; simp (disch := omega) only [amL, sA, sF, ↓reduceIte]) | (refine EN_intro (by kernel_rfl) (by decide) (n23 t (by omega)) (by simp (disch := omega) only [amL, sF, ↓reduceIte]) ?_ ; simp (disch := omega) only [htT, htl, amL, sF, ↓reduceIte]) | (refine EF_intro (by kernel_rfl) rfl (by first | exact c21f (inA x i) t (Nat.lt_of_le_of_lt hxr (by decide)) (Nat.lt_of_le_of_lt hxe (by decide)) (by omega) hin2 | exact c21f (paA x k v) (t ++ [0]) (Nat.lt_of_le_of_lt hxr (by decide)) (by rw [hsl]; omega) (by omega) hin3) ?_ ; simp (disch := omega) only [pM, amL, sA, sF, ↓reduceIte])
            refine hK26 _ ?_
            refine awp_seq_k fun K27 hK27 => ?_
            refine awp_seq_k fun K28 hK28 => ?_
            refine awp_ops ?_
            simp (disch := omega) only [hmx, hdl, ne_eq, amL, amT, sA, sF, ↓reduceIte]
            repeat' first | (refine EG_dec (fun h => ?_) (fun h => ?_) <;> simp (disch := omega) only [h, hi0e, hch2, hmx, hdl, hge, ne_eq, amL, amT, sA, sF, ↓reduceIte, reduceCtorEq]) | (refine EG_cases (fun h => ?_) (fun h => ?_) <;> simp (disch := omega) only [h, hi0e, hch2, pN, hr, hf, hm, hmx, hdl, htl, hd, pM, pP, gL, gK, hge, h8i, hzp, hwr, hwr2, hwr3, hwr4, hmod, ← hi, ← hv, encE_all, isl_all, encE_getD, List.length_range, ne_eq, amL, amT, sA, sB, sC, sD, sE, sF, sG, sH, sI, sJ, sK, sL, sM, sN, sO, ↓reduceIte, reduceCtorEq])
            all_goals
             skip
             refine hK28 _ ?_
             refine awp_cond rfl (fun h => ?_) (fun h => ?_)
             ·first
              | exact Bool.noConfusion h
              |skip
               try simp only [] at h
               refine awp_seq_k fun K29 hK29 => ?_
               refine awp_ops ?_
               simp (disch := omega) only [amL, sA]
               refine hK29 _ ?_
               refine awp_ret ?_
               try simp (disch := omega) only [amL, ↓reduceIte]
               all_goals first | rfl | (exfalso; omega) | (omega)
             ·first
              | exact Bool.noConfusion h
              |skip
               try simp only [] at h
               refine awp_skip ?_
               refine hK27 _ ?_
               refine awp_seq_k fun K30 hK30 => ?_
               refine awp_ops ?_
               simp (disch := omega) only [htk, hsl, amL, amT, sA, sB, sF, ↓reduceIte]
               repeat' first | (refine EF_intro (by kernel_rfl) rfl (by first | exact c22f (inA x i) (Nat.lt_of_le_of_lt hxr (by decide)) (Nat.lt_of_le_of_lt hxe (by decide)) | exact c22f (paA x k v) (Nat.lt_of_le_of_lt hxr (by decide)) (by rw [hsl]; omega)) ?_ ; simp (disch := omega) only [amL, sA, sF, ↓reduceIte]) | (refine EN_intro (by kernel_rfl) (by decide) (n23 t (by omega)) (by simp (disch := omega) only [amL, sF, ↓reduceIte]) ?_ ; simp (disch := omega) only [ht0, htU, hlU, htl, amL, amT, sA, sE, sF, ↓reduceIte, reduceCtorEq]) | (refine EF_intro (by kernel_rfl) rfl (by first | exact c21f (inA x i) t (Nat.lt_of_le_of_lt hxr (by decide)) (Nat.lt_of_le_of_lt hxe (by decide)) (by omega) hin2 | exact c21f (paA x k v) (t ++ [0]) (Nat.lt_of_le_of_lt hxr (by decide)) (by rw [hsl]; omega) (by omega) hin3) ?_ ; simp (disch := omega) only [pP, amL, sA, sF, ↓reduceIte])
               refine hK30 _ ?_
               refine awp_seq_k fun K31 hK31 => ?_
               refine awp_seq_k fun K32 hK32 => ?_
               refine awp_ops ?_
               simp (disch := omega) only [hmx, hdl, gK, h8i, ne_eq, amL, amT, sA, sF, ↓reduceIte, reduceCtorEq]
               repeat' first | (refine EG_dec (fun h => ?_) (fun h => ?_) <;> simp (disch := omega) only [h, pN, hr, hf, hm, hmx, hdl, htl, hd, pM, pP, gL, gK, hge, h8i, hzp, hwr, hwr2, hwr3, hwr4, hmod, ← hi, ← hv, encE_all, isl_all, encE_getD, List.length_range, ne_eq, amL, amT, sA, sB, sC, sD, sE, sF, sG, sH, sI, sJ, sK, sL, sM, sN, sO, ↓reduceIte, reduceCtorEq]) | (refine EG_cases (fun h => ?_) (fun h => ?_) <;> simp (disch := omega) only [h, pN, hr, hf, hm, hmx, hdl, htl, hd, pM, pP, gL, gK, hge, h8i, hzp, hwr, hwr2, hwr3, hwr4, hmod, ← hi, ← hv, encE_all, isl_all, encE_getD, List.length_range, ne_eq, amL, amT, sA, sB, sC, sD, sE, sF, sG, sH, sI, sJ, sK, sL, sM, sN, sO, ↓reduceIte, reduceCtorEq])
               all_goals
                skip
                refine hK32 _ ?_
                refine awp_cond rfl (fun h => ?_) (fun h => ?_)
                ·first
                 | exact Bool.noConfusion h
                 |skip
                  try simp only [Bool.not_eq_true', decide_eq_true_eq, decide_eq_false_iff_not, Bool.and_eq_true, Bool.not_eq_false', Bool.not_not, decide_not, Bool.not_true, Bool.not_false] at h
                  refine awp_seq_k fun K33 hK33 => ?_
                  refine awp_ops ?_
                  simp (disch := omega) only [pN, hr, hf, hm, hmx, hdl, htl, hd, pM, pP, gL, gK, hge, h8i, hzp, hwr, hwr2, hwr3, hwr4, hmod, ← hi, ← hv, encE_all, isl_all, encE_getD, List.length_range, ne_eq, amL, amT, sA, sB, sC, sD, sE, sF, sG, sH, sI, sJ, sK, sL, sM, sN, sO, ↓reduceIte, reduceCtorEq]
                  refine hK33 _ ?_
                  refine awp_ret ?_
                  try simp (disch := omega) only [pN, hr, hf, hm, hmx, hdl, htl, hd, pM, pP, gL, gK, hge, h8i, hzp, hwr, hwr2, hwr3, hwr4, hmod, ← hi, ← hv, encE_all, isl_all, encE_getD, List.length_range, ne_eq, amL, amT, sA, sB, sC, sD, sE, sF, sG, sH, sI, sJ, sK, sL, sM, sN, sO, ↓reduceIte, reduceCtorEq]
                  all_goals first | rfl | (exfalso; omega) | (omega)
                ·first
                 | exact Bool.noConfusion h
                 |skip
                  try simp only [] at h
                  refine awp_skip ?_
                  refine hK31 _ ?_
                  refine awp_seq_k fun K34 hK34 => ?_
                  refine awp_seq_k fun K35 hK35 => ?_
                  refine awp_ops ?_
                  simp (disch := omega) only [amL, sA]
                  refine hK35 _ ?_
                  refine awp_block ?_
                  skip
                  refine awp_loop_k (α := Nat) (fun q => ⟨T [(13, .ptr 13 0), (15, isl (debtsS x t []).1), (22, isl (debtsS (inA x i) t []).1), (24, .p zp), (26, i64 (q : Int))], O [(13, .cells [i64 x.last, i64 x.interest, i64 x.bond, i64 x.purse, .p (.sl (x.rates.map encR)), .own 59 (x.entries.length + 1)]), (59, .arr 5 ((paA x k v).entries.map encE))]⟩) (fun q => (x.last + 1).toNat - q) (fun q => q ≤ (x.last + 1).toNat) 0 ?_ ?_ (fun q hx36 K36 hK36 => ?_)
                  · simp
                  · refine le_mk ?_ ?_ ?_ ?_ <;> (try simp (disch := omega) only [hzp, amL, sF, sG, ↓reduceIte]); all_goals first | rfl | (omega)
                  have hq := hx36
                  refine awp_seq_k fun K37 hK37 => ?_
                  refine awp_seq_k fun K38 hK38 => ?_
                  refine awp_ops ?_
                  simp (disch := omega) only [hmx, hdl, hzp, amL, amT, sA, sF, ↓reduceIte]
                  refine hK38 _ ?_
                  refine awp_cond rfl (fun h => ?_) (fun h => ?_)
                  ·first
                   | exact Bool.noConfusion h
                   |skip
                    try simp only [decide_eq_true_eq] at h
                    refine awp_skip ?_
                    refine hK37 _ ?_
                    refine awp_seq_k fun K39 hK39 => ?_
                    refine awp_block ?_
                    refine awp_seq_k fun K40 hK40 => ?_
                    refine awp_any2 (by kernel_rfl) (by kernel_rfl) ?_
                    have q1 := leL_get (k := q) gM
                    have q2 := leL_get (k := q) gN
                    have hb1 : ((debtsS (inA x i) t []).1.getD q 0 < (debtsS x t []).1.getD q 0) = False := eq_false (by omega)
                    have hb2 : ((debtsS x t []).1.getD q 0 < (debtsS (paA x k v) (t ++ [0]) []).1.getD q 0) = False := eq_false (by omega)
                    simp (disch := omega) only [hb1, hb2, hmx, hdl, gK, h8i, amL, amT, sA, sF, ↓reduceIte, reduceCtorEq]
                    repeat' first | (refine EG_dec (fun h => ?_) (fun h => ?_) <;> simp (disch := omega) only [h, hb1, hb2, pN, hr, hf, hm, hmx, hdl, htl, hd, pM, pP, gL, gK, hge, h8i, hzp, hwr, hwr2, hwr3, hwr4, hmod, ← hi, ← hv, encE_all, isl_all, encE_getD, List.length_range, ne_eq, amL, amT, sA, sB, sC, sD, sE, sF, sG, sH, sI, sJ, sK, sL, sM, sN, sO, ↓reduceIte, reduceCtorEq]) | (refine EG_cases (fun h => ?_) (fun h => ?_) <;> simp (disch := omega) only [h, hb1, hb2, pN, hr, hf, hm, hmx, hdl, htl, hd, pM, pP, gL, gK, hge, h8i, hzp, hwr, hwr2, hwr3, hwr4, hmod, ← hi, ← hv, encE_all, isl_all, encE_getD, List.length_range, ne_eq, amL, amT, sA, sB, sC, sD, sE, sF, sG, sH, sI, sJ, sK, sL, sM, sN, sO, ↓reduceIte, reduceCtorEq])
                    all_goals
                     skip
                     refine hK40 _ ?_
                     refine awp_cond rfl (fun h => ?_) (fun h => ?_)
                     ·first
                      | exact Bool.noConfusion h
                      |skip
                       try simp only [Bool.not_eq_true', decide_eq_true_eq, decide_eq_false_iff_not, Bool.and_eq_true, Bool.not_eq_false', Bool.not_not, decide_not, Bool.not_true, Bool.not_false] at h
                       refine awp_seq_k fun K41 hK41 => ?_
                       refine awp_ops ?_
                       simp (disch := omega) only [pN, hr, hf, hm, hmx, hdl, htl, hd, pM, pP, gL, gK, hge, h8i, hzp, hwr, hwr2, hwr3, hwr4, hmod, ← hi, ← hv, encE_all, isl_all, encE_getD, List.length_range, ne_eq, amL, amT, sA, sB, sC, sD, sE, sF, sG, sH, sI, sJ, sK, sL, sM, sN, sO, ↓reduceIte, reduceCtorEq]
                       refine hK41 _ ?_
                       refine awp_ret ?_
                       try simp (disch := omega) only [pN, hr, hf, hm, hmx, hdl, htl, hd, pM, pP, gL, gK, hge, h8i, hzp, hwr, hwr2, hwr3, hwr4, hmod, ← hi, ← hv, encE_all, isl_all, encE_getD, List.length_range, ne_eq, amL, amT, sA, sB, sC, sD, sE, sF, sG, sH, sI, sJ, sK, sL, sM, sN, sO, ↓reduceIte, reduceCtorEq]
                       all_goals first | rfl | (exfalso; omega) | (omega)
                     ·first
                      | exact Bool.noConfusion h
                      |skip
                       try simp only [] at h
                       refine awp_skip ?_
                       refine hK39 _ ?_
                       refine awp_ops ?_
                       simp (disch := omega) only [amL, amT, sA, sF, ↓reduceIte]
                       refine hK36 (q+1) _ ?_ ?_ (le_mk ?_ ?_ ?_ ?_)
                       all_goals (try simp (disch := omega) only [hzp, amL, sF, sG, ↓reduceIte])
                       all_goals first | omega | (omega)
                  ·first
                   | exact Bool.noConfusion h
                   |skip
                    try simp only [decide_eq_false_iff_not] at h
                    refine awp_exit ?_
                    refine hK34 _ ?_
                    refine awp_seq_k fun K42 hK42 => ?_
                    refine awp_ops ?_
                    simp (disch := omega) only [amL]
                    repeat' first | (refine EC_intro (by kernel_rfl) rfl (c20) (by first | exact .inl rfl | exact .inr (.inl rfl)) ?_ ; simp (disch := omega) only [amL, sA, ↓reduceIte])
                    refine hK42 _ ?_
                    refine awp_ret ?_
                    try simp (disch := omega) only [amL, ↓reduceIte]
                    all_goals first | rfl | (exfalso; omega) | (omega)
end AM.Try
end
/- The statements: five arguments. -/
section
namespace AM.Try
set_option maxRecDepth 100000
open Go AM AM.Duty Go.ChangeShapes Go.WideShapes Go.ChangeAt Go.RowKit
section
variable {H : Type} {enc : TypeId × Value → H} {P : Program} {w : World} {base : Nat} {spare : Nat → Bool} {held : Bool}
theorem trodAll_five {t t' t'' t3 t4 : TypeId} {args : Array Value} {ds : List (DataW H)} {ps : List MemPlace} (h : DataW.TrodAll enc P w base spare held [t, t', t'', t3, t4] args.toList ds ps) :
    ∃ v v' v'' v3 v4 d d' d'' d3 d4 p p' p'' p3 p4, args = #[v, v', v'', v3, v4] ∧ ds = [d, d', d'', d3, d4] ∧ ps = p ++ p' ++ p'' ++ p3 ++ p4 ∧ DataW.Trod enc P w base spare held t v d p ∧ DataW.Trod enc P w base spare held t' v' d' p' ∧ DataW.Trod enc P w base spare held t'' v'' d'' p'' ∧ DataW.Trod enc P w base spare held t3 v3 d3 p3 ∧ DataW.Trod enc P w base spare held t4 v4 d4 p4 := by
  obtain ⟨v, vs, d, ds', p, q, hargs, rfl, rfl, hd, hrest⟩ := trodAll_cons h
  obtain ⟨v', vs', d', ds'', p', q', rfl, rfl, rfl, hd', hrest'⟩ := trodAll_cons hrest
  obtain ⟨v'', vs'', d'', ds''', p'', q'', rfl, rfl, rfl, hd'', hrest''⟩ := trodAll_cons hrest'
  obtain ⟨v3, vs3, d3, ds3, p3, q3, rfl, rfl, rfl, hd3, hrest3⟩ := trodAll_cons hrest''
  obtain ⟨v4, vs4, d4, ds4, p4, q4, rfl, rfl, rfl, hd4, hrest4⟩ := trodAll_cons hrest3
  obtain ⟨rfl, rfl, rfl⟩ := trodAll_nil hrest4
  exact ⟨v, v', v'', v3, v4, d, d', d'', d3, d4, p, p', p'', p3, p4, by cases args; simp_all, rfl, by simp, hd, hd', hd'', hd3, hd4⟩
end
end AM.Try
end
