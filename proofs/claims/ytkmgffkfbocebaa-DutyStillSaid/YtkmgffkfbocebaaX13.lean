/- Lemmas for the proof: more of the program's functions, walked on the abstract machine. -/
import Derived.Test.YtkmgffkfbocebaaP5
import Derived.Test.YtkmgffkfbocebaaRows
import Derived.ProofKit
import Derived.Deep.Slices
import Derived.ChangeStays
/- The reference: truths. -/
section
namespace AM.Try
open Go AM AM.Duty
open Nat renaming reduceLT → sA, reduceAdd → sB, reduceMul → sC, reduceSub → sD, reduceLeDiff → sE, reduceEqDiff → sF, reduceBEq → sG
open Int renaming reduceAdd → sH, reduceSub → sI, reduceMul → sJ, reduceLT → sK, reduceLE → sL, reduceNeg → sM, reduceToNat → sN, reduceEq → sO
set_option maxHeartbeats 4000000
def isTruth (a : Acc) (t : List Int) : Bool := (debtsS a t []).2
def nthT (a : Acc) (n : Nat) : List Int := nthS a.entries (n : Int)
def manyT (a : Acc) : Nat := (sizes a.entries).toNat
end AM.Try
end
/- The statements: what is read of the arguments is what the walks take; what a pure call leaves is what the statements ask. -/
section
namespace AM.Try
set_option maxRecDepth 100000
open Go AM AM.Duty Go.ChangeShapes Go.WideShapes Go.ChangeAt Go.RowKit
noncomputable abbrev TP : Program := Go.Proofs.Try.prog
theorem tp_laid : laidOutB TP = true := by kernel_rfl
theorem tp_maps : mapsRowed TP = true := by kernel_rfl
theorem tp_kids : Kids TP (· < TP.types.size) := kids_rows tp_laid tp_maps
theorem tp_full : ∀ t e, t < TP.types.size → TP.underlying t = some (.slice e) → 0 < TP.cellsOf e := slices_full_of TP (by kernel_rfl)
theorem tp_own : ownKnob TP.godebug = none := by kernel_rfl
section
variable {H : Type} {enc : TypeId × Value → H} {W W' : World}
theorem same_at (hk : Keeps (fun b => W.heap.size ≤ b) W W') {p : MemPlace} (hp : p.block < W.heap.size) : W.sameAt W' p := by
  have h := hk.same p.block hp (by omega)
  cases p with
  | cell b off => simp only [World.sameAt, World.cell?]; rw [show W'.heap[b]? = W.heap[b]? from h]
  | map b => exact h
theorem reads_again (hk : Keeps (fun b => W.heap.size ≤ b) W W') (sp : Nat → Bool) : ∀ {ts : List TypeId} {vs : List Value} {ds : List (DataW H)} {p : List MemPlace},
    (∀ t ∈ ts, t < TP.types.size) → DataW.TrodAll enc TP W 0 (fun _ => true) true ts vs ds p → (∀ x ∈ p, x.block < W.heap.size) → (∀ x ∈ p, sp x.block = true) → DataW.TrodAll enc TP W' 0 sp true ts vs ds p
  | [], [], [], _, _, h, _, _ => h
  | _ :: _, _ :: _, _ :: _, _, hT, ⟨p, q, ⟨n, h1⟩, h2, e⟩, hl, hs =>
    ⟨p, q, ⟨n, DataW.trod_stays tp_kids (fun ht hu => tp_full _ _ ht hu) (fun h => by cases h) (hT _ (List.mem_cons.2 (Or.inl rfl))) h1 (fun x hx => same_at hk (hl x (by rw [e]; exact List.mem_append_left _ hx))) (fun x hx => hs x (by rw [e]; exact List.mem_append_left _ hx))⟩,
      reads_again hk sp (fun t ht => hT t (List.mem_cons.2 (Or.inr ht))) h2 (fun x hx => hl x (by rw [e]; exact List.mem_append_right _ hx)) (fun x hx => hs x (by rw [e]; exact List.mem_append_right _ hx)), e⟩
theorem kept_of_keeps (hk : Keeps (fun b => W.heap.size ≤ b) W W') (may : MemPlace → Prop) : W.keptBut W' may := by
  refine ⟨hk.os, hk.output, fun i hi => ?_⟩
  have h := hk.same i hi (by omega)
  rw [h]
  cases W.heap[i]? with
  | none => rfl
  | some o => cases o <;> first | exact ⟨rfl, rfl, rfl, fun _ _ => rfl⟩ | exact .inr ⟨rfl, rfl⟩ | rfl
theorem law_post {fn : Func} {s : ChangeSpec} {args : Array Value} {ds gs : List (DataW H)} {before : List MemPlace} (hr : fn.resultTypes = #[4]) (hp : ∀ t ∈ fn.params.toList, t < TP.types.size) (hv : s.vars = [])
    (hfn : s.fn H (ds ++ gs) = { results := [.lit (.bool true)], args := ds }) (hW : DataW.Whole enc TP fn.params.toList s.vars false W args.toList ds gs before) (hk : Keeps (fun b => W.heap.size ≤ b) W W') :
    s.post enc TP fn false true false false W args (.bool true) W' := by
  have hW0 := hW
  obtain ⟨p, q, hA, hV, rfl, hz, hn⟩ := hW
  rw [hv] at hV
  obtain ⟨rfl, rfl⟩ := trodVars_none hV
  have hlt : ∀ x ∈ p, x.block < W.heap.size := hA.lt
  refine ⟨ds, [], p ++ [], [], p, [], hW0, ?_, ?_, ?_, World.keptBut_mono (fun x hx => ⟨hx, .inr (.inl (by simpa using hx))⟩) (kept_of_keeps hk _), fun h => by cases h⟩
  · rw [hfn, hr]; exact trodAll_mk1 (shut_bool Go.Proofs.Try.underlying4 true)
  · rw [hfn]; exact reads_again hk _ hp hA hlt (fun x hx => by simpa using hlt x hx)
  · rw [hfn, hv]; rfl
theorem law_calls {f : FuncId} {avs : List AV} {fn : Func} {s : ChangeSpec} {args : Array Value} {ds gs : List (DataW H)} {before : List MemPlace} (hc : PCall TP f avs (bl true)) (hsz : args.size = avs.length) (hrel : ∀ θ (i : Nat) (x : AV), avs[i]? = some x → ARel θ (fun _ => False) W x (args.getD i undef))
    (hr : fn.resultTypes = #[4]) (hp : ∀ t ∈ fn.params.toList, t < TP.types.size) (hv : s.vars = []) (hfn : s.fn H (ds ++ gs) = { results := [.lit (.bool true)], args := ds }) (hW : DataW.Whole enc TP fn.params.toList s.vars false W args.toList ds gs before) :
    Calls TP f args W fun e W' => ∃ v, e = .returned v ∧ s.post enc TP fn false true false false W args v W' := by
  refine (hc.2 (fun _ => ⟨0, 0, true⟩) (fun _ => False) W args (fun b h => h.elim) hsz (fun i x hx => hrel _ i x hx)).mono ?_
  rintro e W' ⟨v, rfl, hv', hk⟩
  cases hv' with
  | p _ _ h =>
    cases h with
    | val _ _ => exact ⟨_, rfl, law_post hr hp hv hfn hW hk⟩
theorem prel_rows {rows : List (List Int)} {b o len cap k : Nat} (hlen : rows.length = len) (hc : len ≤ cap) (hk : ∀ r ∈ rows, r.length = k)
    (hcell : ∀ (i : Nat) (r : List Int) (j : Nat) (m : Int), rows[i]? = some r → r[j]? = some m → W.cell? ⟨b, o + (i * k + j), none⟩ = some (.int .i64 m)) : PRel (fun _ => False) W (.sl (rows.map fun r => r.map iv)) (.slice (some ⟨b, o, none⟩) len cap) := by
  have h := PRel.sl (M := fun _ => False) (w := W) (rows.map fun r => r.map iv) b o cap k (fun i j => (W.cell? ⟨b, o + (i * k + j), none⟩).getD undef) (fun i e he => ?_) (by rw [List.length_map, hlen]; exact hc) (fun i e j x he hx => ?_) (fun i e j x he hx => ?_)
  · rw [List.length_map, hlen] at h; exact h
  · simp only [List.getElem?_map, Option.map_eq_some_iff] at he
    obtain ⟨r, hr, rfl⟩ := he
    rw [List.length_map]; exact hk r (List.mem_of_getElem? hr)
  all_goals
    simp only [List.getElem?_map, Option.map_eq_some_iff] at he
    obtain ⟨r, hr, rfl⟩ := he
    simp only [List.getElem?_map, Option.map_eq_some_iff] at hx
    obtain ⟨m, hm, rfl⟩ := hx
    have hc := hcell i r j m hr hm
    rw [hc]
  · exact ⟨fun h => h, rfl⟩
  · exact .val _ rfl
theorem inR_wf {m : Int} (h : (Lit.int .i64 m).wf = true) : inR m = true := by
  simp only [Lit.wf, IntKind.min, IntKind.max, IntKind.signed, IntKind.bits, Bool.and_eq_true, decide_eq_true_eq] at h
  simp only [inR, Bool.and_eq_true, decide_eq_true_eq]
  constructor <;> simp_all
theorem add_none {b o i : Nat} : Addr.add ⟨b, o, none⟩ i = ⟨b, o + i, none⟩ := by
  unfold Addr.add
  split
  · rename_i h; simp_all
  · rfl
theorem open_recs {t e k fuel : Nat} {cs : List Value} {x : DataW H × List MemPlace} (ht : TP.underlying t = some (.slice e)) (hk : TP.cellsOf e = k)
    (hel : ∀ n cs x, DataW.trod enc TP W 0 (fun _ => true) true n e cs = some x → ∃ ms : List Int, cs = ms.map (fun m => Value.int .i64 m) ∧ ms.length = k ∧ ∀ m ∈ ms, inR m = true)
    (h : DataW.trod enc TP W 0 (fun _ => true) true fuel t cs = some x) (hsp : ∀ a len cap, cs = [.slice (some a) len cap] → a.spot = none) :
    ∃ rows : List (List Int), (∀ r ∈ rows, r.length = k ∧ ∀ m ∈ r, inR m = true) ∧ ∃ v, cs = [v] ∧ PRel (fun _ => False) W (.sl (rows.map fun r => r.map iv)) v := by
  rcases Go.Deep.open_slice ht h with ⟨rfl, _⟩ | ⟨a, len, cap, m, n, D, Pl, rfl, _, hl, hm, hmm, _, hi⟩
  · exact ⟨[], by simp, _, rfl, .nil⟩
  · have hs := hsp a len cap rfl
    obtain ⟨b, o, sp⟩ := a
    dsimp only at hs; subst hs
    simp only [if_true] at hmm
    subst hmm
    obtain ⟨F, hF⟩ := Go.Deep.choose_lt (α := List Int) (n := m) (p := fun i ms => W.cells? 0 (Addr.add ⟨b, o, none⟩ (i * k)) k = some (ms.map fun m => Value.int .i64 m) ∧ ms.length = k ∧ ∀ m ∈ ms, inR m = true) (fun i h1 => by
      obtain ⟨cs', h2, h3⟩ := hi i h1
      obtain ⟨ms, rfl, h4, h5⟩ := hel _ _ _ h3
      rw [hk] at h2
      exact ⟨ms, h2, h4, h5⟩)
    refine ⟨(List.range len).map F, fun r hr => ?_, _, rfl, prel_rows (k := k) (by simp) hl (fun r hr => ?_) (fun i r j m hr hm => ?_)⟩
    · obtain ⟨i, h1, rfl⟩ := List.mem_map.1 hr
      exact (hF i (by have := List.mem_range.1 h1; omega)).2
    · obtain ⟨i, h1, rfl⟩ := List.mem_map.1 hr
      exact (hF i (by have := List.mem_range.1 h1; omega)).2.1
    · simp only [List.getElem?_map, Option.map_eq_some_iff] at hr
      obtain ⟨i', h1, rfl⟩ := hr
      have hlt : i < len := by
        have := (List.getElem?_eq_some_iff.1 h1).1; simpa using this
      have e : i' = i := by
        rw [List.getElem?_range hlt] at h1; exact (Option.some.inj h1).symm
      subst e
      obtain ⟨h2, h3, _⟩ := hF i' (by omega)
      obtain ⟨_, _, h4⟩ := World.cells?_some h2
      have hj : j < k := by rw [← h3]; exact (List.getElem?_eq_some_iff.1 hm).1
      have h5 := h4 j hj
      rw [List.getElem?_map, hm] at h5
      rw [add_none, add_none, Nat.add_assoc] at h5
      exact h5
theorem el3 (n : Nat) (cs : List Value) (x : DataW H × List MemPlace) (h : DataW.trod enc TP W 0 (fun _ => true) true n 3 cs = some x) : ∃ ms : List Int, cs = ms.map (fun m => Value.int .i64 m) ∧ ms.length = 1 ∧ ∀ m ∈ ms, inR m = true := by
  obtain ⟨m, rfl, _, hw⟩ := DataW.trod_int Go.Proofs.Try.underlying3 h
  exact ⟨[m], rfl, rfl, fun y hy => by rw [List.mem_singleton.1 hy]; exact inR_wf hw⟩
theorem cells3 : TP.cellsOf 3 = 1 := by kernel_rfl
theorem cells92 : TP.cellsOf 92 = 2 := by kernel_rfl
theorem cells56 : TP.cellsOf 56 = 2 := by kernel_rfl
theorem cells78 : TP.cellsOf 78 = 5 := by kernel_rfl
theorem cells25 : TP.cellsOf 25 = 6 := by kernel_rfl
theorem cells22 : TP.cellsOf 22 = 1 := by kernel_rfl
theorem cells23 : TP.cellsOf 23 = 1 := by kernel_rfl
theorem one_of {cs : List Value} {j : Nat} {ms : List Int} (h1 : (cs.drop j).take 1 = ms.map (fun m => Value.int .i64 m)) (h2 : ms.length = 1) (h3 : ∀ m ∈ ms, inR m = true) : ∃ m, cs[j]? = some (.int .i64 m) ∧ inR m = true := by
  obtain ⟨m, rfl⟩ := List.length_eq_one_iff.1 h2
  refine ⟨m, ?_, h3 m (by simp)⟩
  have h := congrArg (fun l => l[0]?) h1
  simpa using h
theorem at3 {n j : Nat} {cs : List Value} {x : DataW H × List MemPlace} (h : DataW.trod enc TP W 0 (fun _ => true) true n 3 ((cs.drop j).take 1) = some x) : ∃ m, cs[j]? = some (.int .i64 m) ∧ inR m = true := by
  obtain ⟨ms, h1, h2, h3⟩ := el3 _ _ _ h
  exact one_of h1 h2 h3
theorem two_struct {e n : Nat} {f0 f1 : Field} {cs : List Value} {x : DataW H × List MemPlace} (he : TP.underlying e = some (.struct #[f0, f1])) (hc : TP.cellsOf e = 2) (h0 : f0.type = 3 ∧ f0.offset = 0) (h1 : f1.type = 3 ∧ f1.offset = 1)
    (h : DataW.trod enc TP W 0 (fun _ => true) true n e cs = some x) : ∃ ms : List Int, cs = ms.map (fun m => Value.int .i64 m) ∧ ms.length = 2 ∧ ∀ m ∈ ms, inR m = true := by
  obtain ⟨xs, n', _, _, hl, hxs, hf⟩ := DataW.trod_struct he h
  have hxs : xs.length = 2 := hxs
  match xs, hxs with
  | [y0, y1], _ =>
    have g0 := hf 0 f0 rfl
    have g1 := hf 1 f1 rfl
    rw [h0.1, h0.2, cells3] at g0
    rw [h1.1, h1.2, cells3] at g1
    obtain ⟨a, ha, wa⟩ := at3 g0
    obtain ⟨b, hb, wb⟩ := at3 g1
    rw [hc] at hl
    match cs, hl with
    | [c0, c1], _ =>
      simp only [List.getElem?_cons_zero, Option.some.injEq] at ha
      simp only [List.getElem?_cons_succ, List.getElem?_cons_zero, Option.some.injEq] at hb
      subst ha hb
      exact ⟨[a, b], rfl, rfl, fun y hy => by simp at hy; rcases hy with rfl | rfl <;> assumption⟩
theorem el92 (n : Nat) (cs : List Value) (x : DataW H × List MemPlace) (h : DataW.trod enc TP W 0 (fun _ => true) true n 92 cs = some x) : ∃ ms : List Int, cs = ms.map (fun m => Value.int .i64 m) ∧ ms.length = 2 ∧ ∀ m ∈ ms, inR m = true :=
  two_struct Go.Proofs.Try.underlying92 cells92 ⟨rfl, rfl⟩ ⟨rfl, rfl⟩ h
theorem four_struct {e n : Nat} {f0 f1 f2 f3 : Field} {cs : List Value} {x : DataW H × List MemPlace} (he : TP.underlying e = some (.struct #[f0, f1, f2, f3])) (hc : TP.cellsOf e = 5) (h0 : f0.type = 3 ∧ f0.offset = 0) (h1 : f1.type = 3 ∧ f1.offset = 1) (h2 : f2.type = 56 ∧ f2.offset = 2) (h3 : f3.type = 3 ∧ f3.offset = 4)
    (h : DataW.trod enc TP W 0 (fun _ => true) true n e cs = some x) : ∃ ms : List Int, cs = ms.map (fun m => Value.int .i64 m) ∧ ms.length = 5 ∧ ∀ m ∈ ms, inR m = true := by
  obtain ⟨xs, n', _, _, hl, hxs, hf⟩ := DataW.trod_struct he h
  have hxs : xs.length = 4 := hxs
  match xs, hxs with
  | [y0, y1, y2, y3], _ =>
    have g0 := hf 0 f0 rfl
    have g1 := hf 1 f1 rfl
    have g2 := hf 2 f2 rfl
    have g3 := hf 3 f3 rfl
    rw [h0.1, h0.2, cells3] at g0
    rw [h1.1, h1.2, cells3] at g1
    rw [h2.1, h2.2, cells56] at g2
    rw [h3.1, h3.2, cells3] at g3
    obtain ⟨a, ha, wa⟩ := at3 g0
    obtain ⟨b, hb, wb⟩ := at3 g1
    obtain ⟨ms, k1, k2, k3⟩ := two_struct Go.Proofs.Try.underlying56 cells56 ⟨rfl, rfl⟩ ⟨rfl, rfl⟩ g2
    obtain ⟨c, hc', wc⟩ := at3 g3
    rw [hc] at hl
    match cs, hl, ms, k2 with
    | [c0, c1, c2, c3, c4], _, [m0, m1], _ =>
      simp at ha hb hc' k1
      obtain ⟨rfl, rfl⟩ := k1
      subst ha hb hc'
      exact ⟨[a, b, m0, m1, c], rfl, rfl, fun y hy => by
        simp at hy
        rcases hy with rfl | rfl | rfl | rfl | rfl
        · exact wa
        · exact wb
        · exact k3 _ (by simp)
        · exact k3 _ (by simp)
        · exact wc⟩
theorem el78 (n : Nat) (cs : List Value) (x : DataW H × List MemPlace) (h : DataW.trod enc TP W 0 (fun _ => true) true n 78 cs = some x) : ∃ ms : List Int, cs = ms.map (fun m => Value.int .i64 m) ∧ ms.length = 5 ∧ ∀ m ∈ ms, inR m = true :=
  four_struct Go.Proofs.Try.underlying78 cells78 ⟨rfl, rfl⟩ ⟨rfl, rfl⟩ ⟨rfl, rfl⟩ ⟨rfl, rfl⟩ h
theorem sl_at {t j n : Nat} {cs : List Value} {x : DataW H × List MemPlace} (h : DataW.trod enc TP W 0 (fun _ => true) true n t ((cs.drop j).take 1) = some x) (hj : j < cs.length) : ∃ v, cs[j]? = some v ∧ DataW.trod enc TP W 0 (fun _ => true) true n t [v] = some x := by
  refine ⟨cs[j], List.getElem?_eq_getElem hj, ?_⟩
  rw [List.drop_eq_getElem_cons hj] at h
  exact h
def AccIn (a : Acc) : Prop := (inR a.last = true ∧ inR a.interest = true ∧ inR a.bond = true ∧ inR a.purse = true) ∧ (∀ r ∈ a.rates, inR r.day = true ∧ inR r.pence = true) ∧ ∀ e ∈ a.entries, inR e.kind = true ∧ inR e.day = true ∧ inR e.lo = true ∧ inR e.hi = true ∧ inR e.pence = true
def mkR (l : List Int) : Rate := ⟨l.getD 0 0, l.getD 1 0⟩
def mkE (l : List Int) : Entry := ⟨l.getD 0 0, l.getD 1 0, l.getD 2 0, l.getD 3 0, l.getD 4 0⟩
theorem encR_mk {l : List Int} (h : l.length = 2) : encR (mkR l) = l.map iv := by
  match l, h with
  | [a, b], _ => rfl
theorem encE_mk {l : List Int} (h : l.length = 5) : encE (mkE l) = l.map iv := by
  match l, h with
  | [a, b, c, d, e], _ => rfl
theorem six_struct {e n : Nat} {f0 f1 f2 f3 f4 f5 : Field} {cs : List Value} {x : DataW H × List MemPlace} (he : TP.underlying e = some (.struct #[f0, f1, f2, f3, f4, f5])) (hc : TP.cellsOf e = 6) (h0 : f0.type = 3 ∧ f0.offset = 0) (h1 : f1.type = 3 ∧ f1.offset = 1) (h2 : f2.type = 3 ∧ f2.offset = 2) (h3 : f3.type = 3 ∧ f3.offset = 3) (h4 : f4.type = 22 ∧ f4.offset = 4) (h5 : f5.type = 23 ∧ f5.offset = 5)
    (hs4 : ∀ b len cap, cs[4]? = some (.slice (some b) len cap) → b.spot = none) (hs5 : ∀ b len cap, cs[5]? = some (.slice (some b) len cap) → b.spot = none)
    (h : DataW.trod enc TP W 0 (fun _ => true) true n e cs = some x) : ∃ a : Acc, AccIn a ∧ ∀ θ, ARel θ (fun _ => False) W (avA a) (.agg cs.toArray) := by
  obtain ⟨xs, n', _, _, hl, hxs, hf⟩ := DataW.trod_struct he h
  have hxs : xs.length = 6 := hxs
  match xs, hxs with
  | [y0, y1, y2, y3, y4, y5], _ =>
    have g0 := hf 0 f0 rfl
    have g1 := hf 1 f1 rfl
    have g2 := hf 2 f2 rfl
    have g3 := hf 3 f3 rfl
    have g4 := hf 4 f4 rfl
    have g5 := hf 5 f5 rfl
    rw [h0.1, h0.2, cells3] at g0
    rw [h1.1, h1.2, cells3] at g1
    rw [h2.1, h2.2, cells3] at g2
    rw [h3.1, h3.2, cells3] at g3
    rw [h4.1, h4.2, cells22] at g4
    rw [h5.1, h5.2, cells23] at g5
    obtain ⟨a, ha, wa⟩ := at3 g0
    obtain ⟨b, hb, wb⟩ := at3 g1
    obtain ⟨c, hc', wc⟩ := at3 g2
    obtain ⟨d, hd, wd⟩ := at3 g3
    rw [hc] at hl
    obtain ⟨v4, hv4, k4⟩ := sl_at g4 (by omega)
    obtain ⟨v5, hv5, k5⟩ := sl_at g5 (by omega)
    obtain ⟨rs, r1, v4', r2, r3⟩ := open_recs Go.Proofs.Try.underlying22 cells92 el92 k4 (fun b len cap e => hs4 b len cap (by rw [hv4, List.head_eq_of_cons_eq e]))
    obtain ⟨es, e1, v5', e2, e3⟩ := open_recs Go.Proofs.Try.underlying23 cells78 el78 k5 (fun b len cap e => hs5 b len cap (by rw [hv5, List.head_eq_of_cons_eq e]))
    have r2 := List.head_eq_of_cons_eq r2
    have e2 := List.head_eq_of_cons_eq e2
    subst r2 e2
    match cs, hl with
    | [c0, c1, c2, c3, c4, c5], _ =>
      simp at ha hb hc' hd hv4 hv5
      subst ha hb hc' hd hv4 hv5
      have hrs : (rs.map mkR).map encR = rs.map fun r => r.map iv := by
        rw [List.map_map]; exact List.map_congr_left fun r hr => encR_mk (r1 r hr).1
      have hes : (es.map mkE).map encE = es.map fun r => r.map iv := by
        rw [List.map_map]; exact List.map_congr_left fun r hr => encE_mk (e1 r hr).1
      refine ⟨⟨a, b, c, d, rs.map mkR, es.map mkE⟩, ⟨⟨wa, wb, wc, wd⟩, fun r hr => ?_, fun e he => ?_⟩, fun θ => .agg _ _ rfl (fun i hi => ?_) (fun i x hx => ?_)⟩
      · obtain ⟨l, hl, rfl⟩ := List.mem_map.1 hr
        obtain ⟨h1, h2⟩ := r1 l hl
        match l, h1 with
        | [p, q], _ => exact ⟨h2 _ (by simp [mkR]), h2 _ (by simp [mkR])⟩
      · obtain ⟨l, hl, rfl⟩ := List.mem_map.1 he
        obtain ⟨h1, h2⟩ := e1 l hl
        match l, h1 with
        | [p, q, r, s, u], _ => exact ⟨h2 _ (by simp [mkE]), h2 _ (by simp [mkE]), h2 _ (by simp [mkE]), h2 _ (by simp [mkE]), h2 _ (by simp [mkE])⟩
      · have hr := r3.oneCell
        have he := e3.oneCell
        match i, hi with
        | 0, _ => rfl
        | 1, _ => rfl
        | 2, _ => rfl
        | 3, _ => rfl
        | 4, _ => exact hr
        | 5, _ => exact he
      · match i, hx with
        | 0, hx => cases hx; exact .p _ _ (.val _ rfl)
        | 1, hx => cases hx; exact .p _ _ (.val _ rfl)
        | 2, hx => cases hx; exact .p _ _ (.val _ rfl)
        | 3, hx => cases hx; exact .p _ _ (.val _ rfl)
        | 4, hx => cases hx; dsimp only; rw [hrs]; exact .p _ _ r3
        | 5, hx => cases hx; dsimp only; rw [hes]; exact .p _ _ e3
theorem types25 : TP.cellTypes TP.depth 25 = some [3, 3, 3, 3, 22, 23] := by kernel_rfl
theorem open_acc {base : Nat} {v : Value} {d : DataW H} {p : List MemPlace} (hv : Value.okWide TP W .any base 25 v) (h : DataW.Trod enc TP W 0 (fun _ => true) true 25 v d p) : ∃ a : Acc, AccIn a ∧ ∀ θ, ARel θ (fun _ => False) W (avA a) v := by
  simp only [Value.okWide, Go.Proofs.Try.underlying25] at hv
  obtain ⟨cs, rfl, _, ts, hts, _, hall⟩ := hv
  rw [types25] at hts
  cases hts
  obtain ⟨n, hn⟩ := h
  obtain ⟨l⟩ := cs
  refine six_struct Go.Proofs.Try.underlying25 cells25 ⟨rfl, rfl⟩ ⟨rfl, rfl⟩ ⟨rfl, rfl⟩ ⟨rfl, rfl⟩ ⟨rfl, rfl⟩ ⟨rfl, rfl⟩ (fun b len cap hb => ?_) (fun b len cap hb => ?_) hn
  · obtain ⟨u, hu, hok⟩ := hall 4 _ (by simpa using hb)
    simp at hu; subst hu
    simp only [Go.Proofs.Try.underlying22, Cell.okWide, Cell.ok, World.has] at hok
    exact hok.2.2.2.1
  · obtain ⟨u, hu, hok⟩ := hall 5 _ (by simpa using hb)
    simp at hu; subst hu
    simp only [Go.Proofs.Try.underlying23, Cell.okWide, Cell.ok, World.has] at hok
    exact hok.2.2.2.1
end
end AM.Try
end
/- The law of plays. -/
section
namespace AM.Try
open Go AM AM.Duty
open Nat renaming reduceLT → sA, reduceAdd → sB, reduceMul → sC, reduceSub → sD, reduceLeDiff → sE, reduceEqDiff → sF, reduceBEq → sG
open Int renaming reduceAdd → sH, reduceSub → sI, reduceMul → sJ, reduceLT → sK, reduceLE → sL, reduceNeg → sM, reduceToNat → sN, reduceEq → sO
set_option maxHeartbeats 8000000
set_option maxRecDepth 100000
theorem c24 (a : Acc) (hl1 : a.rates.length < 1000000) (hl2 : a.entries.length < 1000000) : PCall Go.Proofs.Try.prog 24 [avA a] (i64 (faultS a)) := by
  refine pcall_mk (v := []) (q := []) (N := 5) (rs := [.tmp 2]) Go.Proofs.Try.func24 rfl rfl rfl rfl rfl ?_
  refine awp_seq_k fun K1 hK1 => ?_
  refine awp_ops ?_
  simp (disch := omega) only [amL, sA, ↓reduceIte]
  refine hK1 _ ?_
  refine awp_seq_k fun K2 hK2 => ?_
  refine awp_ops ?_
  simp (disch := omega) only [amL, amT, sA, sB, sF, ↓reduceIte]
  repeat' first | (refine EC_intro (by kernel_rfl) rfl (c61 a hl1 hl2) (by first | exact .inl rfl | exact .inr (.inl rfl)) ?_ ; simp (disch := omega) only [amL, sA, ↓reduceIte])
  refine hK2 _ ?_
  refine awp_ret ?_
  try simp (disch := omega) only [amL, ↓reduceIte]
  skip
theorem debts_len {a : Acc} {t paid : List Int} : ∀ {c day : Nat} {w : Wk}, (debtsF a t paid c day w).1.length = c
  | 0, _, _ => rfl
  | c + 1, day, w => by simp only [debtsF, List.length_cons, debts_len]
theorem in_of {a : Acc} (h : AccIn a) : ∀ e ∈ a.entries, inR e.lo = true ∧ inR e.hi = true := fun e he => ⟨(h.2.2 e he).2.2.1, (h.2.2 e he).2.2.2.1⟩
end AM.Try
end
/- The laws' conditions; the reference: truths. -/
section
namespace AM.Try
open Go AM AM.Duty
open Nat renaming reduceLT → sA, reduceAdd → sB, reduceMul → sC, reduceSub → sD, reduceLeDiff → sE, reduceEqDiff → sF, reduceBEq → sG
open Int renaming reduceAdd → sH, reduceSub → sI, reduceMul → sJ, reduceLT → sK, reduceLE → sL, reduceNeg → sM, reduceToNat → sN, reduceEq → sO
set_option maxHeartbeats 8000000
set_option maxRecDepth 100000
def thinS (a : Acc) : Bool := decide (a.rates.length ≤ 7) && decide (a.entries.length ≤ 11)
theorem c19t (a : Acc) : PCall Go.Proofs.Try.prog 19 [avA a] (bl (thinS a)) := c19 a
theorem thin_len {a : Acc} (h : thinS a = true) : a.rates.length ≤ 7 ∧ a.entries.length ≤ 11 := by simpa [thinS] using h
end AM.Try
end
/- The reference: all truths. -/
section
namespace AM.Try
open Go AM AM.Duty
open Nat renaming reduceLT → sA, reduceAdd → sB, reduceMul → sC, reduceSub → sD, reduceLeDiff → sE, reduceEqDiff → sF, reduceBEq → sG
open Int renaming reduceAdd → sH, reduceSub → sI, reduceMul → sJ, reduceLT → sK, reduceLE → sL, reduceNeg → sM, reduceToNat → sN, reduceEq → sO
set_option maxHeartbeats 8000000
set_option maxRecDepth 100000
def truthsTo (a : Acc) (k : Nat) : List (List Int) := ((List.range k).map (nthT a)).filter (isTruth a)
def truthsR (a : Acc) : List (List Int) := truthsTo a (manyT a)
end AM.Try
end
/- The reference: the bounds of a day. -/
section
namespace AM.Try
open Go AM AM.Duty
open Nat renaming reduceLT → sA, reduceAdd → sB, reduceMul → sC, reduceSub → sD, reduceLeDiff → sE, reduceEqDiff → sF, reduceBEq → sG
open Int renaming reduceAdd → sH, reduceSub → sI, reduceMul → sJ, reduceLT → sK, reduceLE → sL, reduceNeg → sM, reduceToNat → sN, reduceEq → sO
set_option maxHeartbeats 8000000
set_option maxRecDepth 100000
theorem debts_full {a : Acc} (t : List Int) (paid : List Int) : (debtsS a t paid).1.length = (a.last + 1).toNat := by unfold debtsS; rw [debts_len]
end AM.Try
end
/- Plain laws: the program's truths are the reference's. -/
section
namespace AM.Try
open Go AM AM.Duty
open Nat renaming reduceLT → sA, reduceAdd → sB, reduceMul → sC, reduceSub → sD, reduceLeDiff → sE, reduceEqDiff → sF, reduceBEq → sG
open Int renaming reduceAdd → sH, reduceSub → sI, reduceMul → sJ, reduceLT → sK, reduceLE → sL, reduceNeg → sM, reduceToNat → sN, reduceEq → sO
theorem mem_listsN {f : Int → List (List Int)} {x : List Int} : ∀ {c : Nat} {n : Int}, x ∈ listsN f c n ↔ ∃ k : Nat, k < c ∧ x ∈ f (n + k)
  | 0, n => by simp [listsN]
  | c + 1, n => by
    simp only [listsN, List.mem_append, mem_listsN (c := c)]
    constructor
    · rintro (h | ⟨k, h1, h2⟩)
      · exact ⟨0, by omega, by simpa using h⟩
      · exact ⟨k + 1, by omega, by rw [show n + ((k + 1 : Nat) : Int) = n + 1 + k by omega]; exact h2⟩
    · rintro ⟨k, h1, h2⟩
      cases k with
      | zero => left; simpa using h2
      | succ k => right; exact ⟨k, by omega, by rw [show n + 1 + (k : Int) = n + ((k + 1 : Nat) : Int) by omega]; exact h2⟩
theorem mem_lists : ∀ {es : List Entry} {p x : List Int}, x ∈ listsP es p ↔ ∃ y, x = p ++ y ∧ listedP es y = true
  | [], p, x => by
    simp only [listsP, List.mem_singleton]
    constructor
    · rintro rfl; exact ⟨[], by simp, rfl⟩
    · rintro ⟨y, rfl, h⟩
      cases y with
      | nil => simp
      | cons u us => cases h
  | e :: es, p, x => by
    simp only [listsP, mem_listsN, mem_lists (es := es)]
    constructor
    · rintro ⟨k, h1, y, rfl, h2⟩
      refine ⟨(e.lo + k) :: y, by simp, ?_⟩
      simp only [listedP, inB, h2, Bool.and_true, Bool.and_eq_true, decide_eq_true_eq]
      omega
    · rintro ⟨y, rfl, h⟩
      cases y with
      | nil => cases h
      | cons u us =>
        simp only [listedP, inB, Bool.and_eq_true, decide_eq_true_eq] at h
        refine ⟨(u - e.lo).toNat, by omega, us, ?_, h.2⟩
        rw [show e.lo + ((u - e.lo).toNat : Int) = u by omega]
        simp
theorem nth_listed : ∀ {es : List Entry} {n : Int}, (∀ e ∈ es, e.lo ≤ e.hi) → listedP es (nthS es n) = true
  | [], _, _ => rfl
  | e :: es, n, h => by
    have h1 := h e (by simp)
    have h3 := nth_listed (es := es) (n := n / (e.hi - e.lo + 1)) fun x hx => h x (by simp [hx])
    simp only [nthS, listedP, h3, Bool.and_true, inB, Bool.and_eq_true, decide_eq_true_eq]
    have h2 := mod_bound (m := n) (s := e.hi - e.lo + 1) (by omega)
    omega
theorem listed_nth : ∀ {es : List Entry} {y : List Int}, (∀ e ∈ es, e.lo ≤ e.hi) → listedP es y = true → ∃ n : Nat, n < many es ∧ nthS es n = y
  | [], [], _, _ => ⟨0, by simp [many], rfl⟩
  | [], _ :: _, _, h => by cases h
  | _ :: _, [], _, h => by cases h
  | e :: es, u :: us, hlo, h => by
    simp only [listedP, inB, Bool.and_eq_true, decide_eq_true_eq] at h
    obtain ⟨n, h1, h2⟩ := listed_nth (fun x hx => hlo x (by simp [hx])) h.2
    have hs : ((e.hi - e.lo + 1).toNat : Int) = e.hi - e.lo + 1 := Int.toNat_of_nonneg (by omega)
    generalize hS : (e.hi - e.lo + 1).toNat = s at hs
    have ha : (u - e.lo).toNat < s := by omega
    have hu : ((u - e.lo).toNat : Int) = u - e.lo := Int.toNat_of_nonneg (by omega)
    generalize (u - e.lo).toNat = w at ha hu
    refine ⟨w + s * n, ?_, ?_⟩
    · show _ < (e.hi - e.lo + 1).toNat * many es
      rw [hS]
      have : s * (n + 1) ≤ s * many es := Nat.mul_le_mul_left _ h1
      rw [Nat.mul_add] at this; omega
    · simp only [nthS]
      rw [← hs]
      have e1 : ((w + s * n : Nat) : Int) % (s : Int) = w := by
        rw [← Int.natCast_emod, Nat.add_mul_mod_self_left, Nat.mod_eq_of_lt ha]
      have e2 : ((w + s * n : Nat) : Int) / (s : Int) = n := by
        rw [← Int.natCast_ediv, Nat.add_mul_div_left _ _ (by omega), Nat.div_eq_of_lt ha, Nat.zero_add]
      rw [e1, e2, h2, hu, show e.lo + (u - e.lo) = u by omega]
theorem lo_le {a : Acc} (hf : faultS a = 0) : ∀ e ∈ a.entries, e.lo ≤ e.hi := fun e he => (isEntry_small (List.all_eq_true.1 (fault_zero hf).2.2.2.2.1 e he)).2.1
theorem many_T {a : Acc} (hf : faultS a = 0) : manyT a = many a.entries := by
  have h := sizes_many a.entries 1 (fun e he => by have := lo_le hf e he; omega)
  unfold manyT sizes; rw [h]; omega
theorem mem_truths {a : Acc} (hf : faultS a = 0) {x : List Int} : x ∈ truthsL a ↔ x ∈ truthsR a := by
  unfold truthsL truthsR truthsTo
  rw [List.mem_filter, List.mem_filter, (playS_ask hf x).1, mem_lists, List.mem_map]
  refine and_congr ?_ Iff.rfl
  constructor
  · rintro ⟨y, rfl, h⟩
    obtain ⟨n, h1, h2⟩ := listed_nth (lo_le hf) h
    exact ⟨n, List.mem_range.2 (by rw [many_T hf]; exact h1), by simpa [nthT] using h2⟩
  · rintro ⟨n, _, rfl⟩
    exact ⟨nthT a n, by simp, nth_listed (lo_le hf)⟩
theorem truths_empty {a : Acc} (hf : faultS a = 0) : (truthsL a).isEmpty = (truthsR a).isEmpty := by
  rw [Bool.eq_iff_iff, List.isEmpty_iff, List.isEmpty_iff]
  constructor <;> intro h <;> refine List.eq_nil_iff_forall_not_mem.2 fun x hx => ?_
  · have := (mem_truths hf).2 hx; rw [h] at this; cases this
  · have := (mem_truths hf).1 hx; rw [h] at this; cases this
end AM.Try
end
/- Plain laws: bounds and whether the bond is kept, of the same truths. -/
section
namespace AM.Try
open Go AM AM.Duty
open Nat renaming reduceLT → sA, reduceAdd → sB, reduceMul → sC, reduceSub → sD, reduceLeDiff → sE, reduceEqDiff → sF, reduceBEq → sG
open Int renaming reduceAdd → sH, reduceSub → sI, reduceMul → sJ, reduceLT → sK, reduceLE → sL, reduceNeg → sM, reduceToNat → sN, reduceEq → sO
theorem last_in {a : Acc} (hf : faultS a = 0) : 0 ≤ a.last ∧ a.last ≤ 11 := by
  obtain ⟨_, _, z3, _, _, _⟩ := fault_zero hf
  simp only [inB, Bool.and_eq_true, decide_eq_true_eq] at z3
  omega
end AM.Try
end
/- Plain laws: payments; the search for the fewest. -/
section
namespace AM.Try
open Go AM AM.Duty
open Nat renaming reduceLT → sA, reduceAdd → sB, reduceMul → sC, reduceSub → sD, reduceLeDiff → sE, reduceEqDiff → sF, reduceBEq → sG
open Int renaming reduceAdd → sH, reduceSub → sI, reduceMul → sJ, reduceLT → sK, reduceLE → sL, reduceNeg → sM, reduceToNat → sN, reduceEq → sO
theorem step_no {rate day : Int} {e : Entry} {u d p n : Int} (hk : 0 ≤ e.kind ∧ e.kind ≤ 3) (h : (stepE rate day e u ⟨d, p, n, true⟩).ok = true) :
    stepP false rate day e u (d, n) = (((stepE rate day e u ⟨d, p, n, true⟩).debt, (stepE rate day e u ⟨d, p, n, true⟩).units), true) := by
  unfold stepE at h ⊢
  unfold stepP actP
  by_cases e1 : e.day = day
  · simp only [e1, not_true_eq_false, if_false] at h ⊢
    by_cases k0 : e.kind = 0
    · simp [k0]
    · by_cases k1 : e.kind = 1
      · simp [k1]
      · by_cases k2 : e.kind = 2
        · simp [k2] at h ⊢; exact h
        · have k3 : e.kind = 3 := by omega
          simp [k3]
  · simp [e1]
theorem day_no {rate day : Int} : ∀ {es : List Entry} {t : List Int} {w : Wk}, kinds es → w.ok = true → (dayF rate day es t w).ok = true →
    dayP false rate day es t (w.debt, w.units) = some ((dayF rate day es t w).debt, (dayF rate day es t w).units)
  | [], t, w, _, _, _ => by cases t <;> rfl
  | e :: es, [], w, _, _, _ => rfl
  | e :: es, u :: us, w, hk, hw, h => by
    obtain ⟨d, p, n, o⟩ := w
    dsimp only at hw; subst hw
    have h1 : (stepE rate day e u ⟨d, p, n, true⟩).ok = true := by
      cases hc : (stepE rate day e u ⟨d, p, n, true⟩).ok with
      | true => rfl
      | false => have := dayF_ok (rate := rate) (day := day) (es := es) (t := us) hc; simp only [dayF] at h; rw [this] at h; cases h
    have h2 := step_no (p := p) (hk e (by simp)) h1
    simp only [dayP, dayF, h2, if_true] at h ⊢
    exact day_no (fun e he => hk e (by simp [he])) h1 h
theorem dayS_ok {a : Acc} {t paid : List Int} {day : Nat} {w : Wk} : (dayS a t paid day w).ok = (dayF (ratedX a.rates (day + 1)) day a.entries t (dayI a w)).ok := by
  unfold dayS; dsimp only; split <;> rfl
theorem debts_true {a : Acc} {t paid : List Int} {c day : Nat} {w : Wk} (h : (debtsF a t paid c day w).2 = true) : w.ok = true := by
  cases hw : w.ok with
  | true => rfl
  | false => rw [debts_ok hw] at h; cases h
theorem play_no {a : Acc} {t paid : List Int} (hr : ratesS a.last (-1) a.rates = true) (hk : kinds a.entries) : ∀ {c day : Nat} {w : Wk},
    (debtsF a t paid c day w).2 = true → (playF a t paid false c day (w.debt, w.units)).1 = (debtsF a t paid c day w).1
  | 0, _, _, _ => rfl
  | c + 1, day, w, h => by
    have hw := debts_true h
    simp only [debtsF] at h
    have h1 := debts_true h
    rw [dayS_ok] at h1
    have h2 := day_no (w := dayI a w) hk hw h1
    rw [playF_succ, rate_eq hr]
    have h2 : dayP false (ratedX a.rates (day + 1)) day a.entries t (intP a (w.debt, w.units)) = _ := h2
    rw [h2]
    have h3 : payP a paid day ((dayF (ratedX a.rates (day + 1)) day a.entries t (dayI a w)).debt, (dayF (ratedX a.rates (day + 1)) day a.entries t (dayI a w)).units) = ((dayS a t paid day w).debt, (dayS a t paid day w).units) := by
      unfold payP dayS; dsimp only; split <;> rfl
    simp only [h3, debtsF]
    rw [play_no hr hk h]
def alike (w v : Wk) : Prop := w.plain = v.plain ∧ w.units = v.units ∧ w.ok = v.ok
theorem step_alike {rate day : Int} {e : Entry} {u : Int} {w v : Wk} (h : alike w v) : alike (stepE rate day e u w) (stepE rate day e u v) := by
  obtain ⟨h1, h2, h3⟩ := h
  unfold stepE alike
  split
  · exact ⟨h1, h2, h3⟩
  · split
    · simp [h1, h2, h3]
    · split
      · simp [h1, h2, h3]
      · split
        · simp [h1, h2, h3]
        · split
          · simp [h1, h2, h3]
          · exact ⟨h1, h2, h3⟩
theorem day_alike {rate day : Int} : ∀ {es : List Entry} {t : List Int} {w v : Wk}, alike w v → alike (dayF rate day es t w) (dayF rate day es t v)
  | [], t, w, v, h => by cases t <;> exact h
  | e :: es, [], w, v, h => h
  | e :: es, u :: us, w, v, h => day_alike (es := es) (t := us) (step_alike h)
theorem dayS_alike {a : Acc} {t p q : List Int} {day : Nat} {w v : Wk} (h : alike w v) : alike (dayS a t p day w) (dayS a t q day v) := by
  have h1 : alike (dayI a w) (dayI a v) := by obtain ⟨h1, h2, h3⟩ := h; exact ⟨by simp [dayI, h1], h2, h3⟩
  have h2 := day_alike (rate := ratedX a.rates (day + 1)) (day := day) (es := a.entries) (t := t) h1
  unfold dayS; dsimp only
  split <;> split <;> exact h2
theorem debts_paid {a : Acc} {t p q : List Int} : ∀ {c day : Nat} {w v : Wk}, alike w v → (debtsF a t p c day w).2 = (debtsF a t q c day v).2
  | 0, _, _, _, h => h.2.2
  | c + 1, day, _, _, h => debts_paid (c := c) (day := day + 1) (dayS_alike (a := a) (t := t) (p := p) (q := q) (day := day) h)
def holdsR (a : Acc) (days : List Int) : Bool := (truthsR a).all fun t => keepsS a.bond (debtsS a t days).1
theorem truthsR_is {a : Acc} {t : List Int} (h : t ∈ truthsR a) : isTruth a t = true := (List.mem_filter.1 h).2
theorem holds1_eq {a : Acc} (hf : faultS a = 0) {t : List Int} (days : List Int) (h : isTruth a t = true) : holds1 a days t = keepsS a.bond (debtsS a t days).1 := by
  have h1 : (debtsF a t days (a.last + 1).toNat 0 ⟨0, 0, 0, true⟩).2 = true := by
    rw [debts_paid (q := []) (v := ⟨0, 0, 0, true⟩) ⟨rfl, rfl, rfl⟩]; exact h
  have h2 := play_no (fault_zero hf).2.2.2.1 (kinds_of hf) h1
  unfold holds1
  rw [show (playS a t days false).1 = (debtsS a t days).1 from h2]
  unfold keepsP keepsS
  rw [pad_take2 (debts_full t days)]
theorem all_mem {α : Type} {l r : List α} {p q : α → Bool} (h : ∀ x, x ∈ l ↔ x ∈ r) (he : ∀ x ∈ r, p x = q x) : l.all p = r.all q := by
  rw [Bool.eq_iff_iff, List.all_eq_true, List.all_eq_true]
  constructor
  · intro h1 x hx; rw [← he x hx]; exact h1 x ((h x).2 hx)
  · intro h1 x hx; rw [he x ((h x).1 hx)]; exact h1 x ((h x).1 hx)
theorem good_eq {a : Acc} (hf : faultS a = 0) (days : List Int) : good a days = holdsR a days :=
  all_mem (fun x => by rw [List.mem_reverse]; exact mem_truths hf) fun x hx => holds1_eq hf days (truthsR_is hx)
theorem plan_len {last : Int} : ∀ {l : List Int} {p : Int}, p ≤ last → planS last p l = true → p + l.length ≤ last
  | [], p, h, _ => by simpa using h
  | n :: r, p, h, hp => by
    simp only [planS, Bool.and_eq_true, decide_eq_true_eq] at hp
    have := plan_len hp.2.1 hp.2.2
    simp only [List.length_cons]; omega
end AM.Try
end
/- Plain laws: the search for the smallest set; bits. -/
section
namespace AM.Try
open Go AM AM.Duty
open Nat renaming reduceLT → sA, reduceAdd → sB, reduceMul → sC, reduceSub → sD, reduceLeDiff → sE, reduceEqDiff → sF, reduceBEq → sG
open Int renaming reduceAdd → sH, reduceSub → sI, reduceMul → sJ, reduceLT → sK, reduceLE → sL, reduceNeg → sM, reduceToNat → sN, reduceEq → sO
def bitsF : Nat → Nat → Nat → List Int
  | 0, _, _ => []
  | c + 1, p, n => if n % 2 = 1 then (p : Int) :: bitsF c (p + 1) (n / 2) else bitsF c (p + 1) (n / 2)
def bitsS (n : Nat) : List Int := bitsF 16 0 n
theorem bitsF_zero : ∀ c p, bitsF c p 0 = []
  | 0, _ => rfl
  | c + 1, p => by simp only [bitsF]; rw [if_neg (by decide)]; exact bitsF_zero c (p + 1)
theorem plan_low {last : Int} : ∀ {l : List Int} {p q : Int}, q ≤ p → planS last p l = true → planS last q l = true
  | [], _, _, _, _ => rfl
  | n :: r, p, q, h, hp => by
    simp only [planS, Bool.and_eq_true, decide_eq_true_eq] at hp ⊢
    exact ⟨by omega, hp.2⟩
theorem bitsF_plan : ∀ {c p k n : Nat}, n < 2 ^ k → planS ((p : Int) + k - 1) ((p : Int) - 1) (bitsF c p n) = true
  | 0, _, _, _, _ => rfl
  | c + 1, p, 0, n, h => by
    have : n = 0 := by simpa using h
    subst this; rw [bitsF_zero]; rfl
  | c + 1, p, k + 1, n, h => by
    have h1 : n / 2 < 2 ^ k := by rw [Nat.pow_succ] at h; omega
    have ih := bitsF_plan (c := c) (p := p + 1) h1
    rw [show ((p + 1 : Nat) : Int) + k - 1 = (p : Int) + (k + 1 : Nat) - 1 by omega, show ((p + 1 : Nat) : Int) - 1 = p by omega] at ih
    simp only [bitsF]
    split
    · simp only [planS, ih, Bool.and_true, Bool.and_eq_true, decide_eq_true_eq]; omega
    · exact plan_low (by omega) ih
theorem bitsF_find : ∀ {k c p : Nat} {l : List Int}, k ≤ c → planS ((p : Int) + k - 1) ((p : Int) - 1) l = true → ∃ n, n < 2 ^ k ∧ bitsF c p n = l
  | k, c, p, [], _, _ => ⟨0, Nat.pow_pos (by decide), bitsF_zero c p⟩
  | 0, c, p, x :: r, _, h => by simp only [planS, Bool.and_eq_true, decide_eq_true_eq] at h; omega
  | k + 1, 0, p, x :: r, hc, _ => by omega
  | k + 1, c + 1, p, x :: r, hc, h => by
    have e1 : (p : Int) + (k + 1 : Nat) - 1 = ((p + 1 : Nat) : Int) + k - 1 := by omega
    have e2 : ((p + 1 : Nat) : Int) - 1 = p := by omega
    have h0 := h
    simp only [planS, Bool.and_eq_true, decide_eq_true_eq] at h0
    by_cases hx : x = p
    · obtain ⟨n, hn, hb⟩ := bitsF_find (k := k) (c := c) (p := p + 1) (l := r) (by omega) (by rw [← e1, e2]; rw [hx] at h0; exact h0.2.2)
      refine ⟨2 * n + 1, by rw [Nat.pow_succ]; omega, ?_⟩
      simp only [bitsF]
      rw [if_pos (by omega), show (2 * n + 1) / 2 = n by omega, hb, hx]
    · obtain ⟨n, hn, hb⟩ := bitsF_find (k := k) (c := c) (p := p + 1) (l := x :: r) (by omega) (by
        rw [← e1, e2]
        simp only [planS, h0.2.2, Bool.and_true, Bool.and_eq_true, decide_eq_true_eq]; omega)
      refine ⟨2 * n, by rw [Nat.pow_succ]; omega, ?_⟩
      simp only [bitsF]
      rw [if_neg (by omega), show 2 * n / 2 = n by omega, hb]
theorem bits_mem {k : Nat} {l : List Int} (hk : k ≤ 16) : l ∈ (List.range (2 ^ k)).map bitsS ↔ planS ((k : Int) - 1) (-1) l = true := by
  rw [List.mem_map]
  have e1 : ((0 : Nat) : Int) + k - 1 = (k : Int) - 1 := by omega
  constructor
  · rintro ⟨n, hn, rfl⟩
    have := bitsF_plan (c := 16) (p := 0) (List.mem_range.1 hn)
    rw [e1] at this; exact this
  · intro h
    obtain ⟨n, hn, hb⟩ := bitsF_find (c := 16) (p := 0) (l := l) hk (by rw [e1]; exact h)
    exact ⟨n, List.mem_range.2 hn, hb⟩
theorem last_in' {a : Acc} (hf : faultS a = 0) : 0 ≤ a.last ∧ a.last ≤ 11 := by
  have := (fault_zero hf).2.2.1
  simp only [inB, Bool.and_eq_true, decide_eq_true_eq] at this
  omega
end AM.Try
end
/- The reference: bits. -/
section
namespace AM.Try
open Go AM AM.Duty
open Nat renaming reduceLT → sA, reduceAdd → sB, reduceMul → sC, reduceSub → sD, reduceLeDiff → sE, reduceEqDiff → sF, reduceBEq → sG
open Int renaming reduceAdd → sH, reduceSub → sI, reduceMul → sJ, reduceLT → sK, reduceLE → sL, reduceNeg → sM, reduceToNat → sN, reduceEq → sO
set_option maxHeartbeats 8000000
set_option maxRecDepth 100000
theorem wrapU {x : Int} (h1 : 0 ≤ x) (h2 : x < 9223372036854775808) : IntKind.wrap .u64 x = x := by
  simp only [IntKind.wrap, IntKind.signed, IntKind.bits]
  simp; omega
theorem shrN {n p : Nat} (h : p ≤ 16) : ((n : Int).fdiv (2 ^ (min p IntKind.i64.bits)) : Int) = ((n / 2 ^ p : Nat) : Int) := by
  have e : (2 : Int) ^ p = ((2 ^ p : Nat) : Int) := by rw [Int.natCast_pow]; rfl
  rw [Nat.min_eq_left (by simp only [IntKind.bits]; omega), e, Int.fdiv_eq_ediv_of_nonneg _ (Int.natCast_nonneg _), Int.natCast_ediv]
def bitsN (n p : Nat) (acc : List Int) : List Int := if n / 2 ^ p % 2 = 1 then acc ++ [(p : Int)] else acc
theorem bitsN_next {n p : Nat} {acc : List Int} {R : List Int} (hp : p < 16) (hal : acc.length ≤ p) (hr : acc ++ bitsF (16 - p) p (n / 2 ^ p) = R) : p ≤ 15 ∧ (bitsN n p acc).length ≤ p + 1 ∧ bitsN n p acc ++ bitsF (16 - (p + 1)) (p + 1) (n / 2 ^ (p + 1)) = R := by
  rw [show 16 - p = (16 - (p + 1)) + 1 by omega] at hr
  simp only [bitsF] at hr
  rw [Nat.pow_succ, ← Nat.div_div_eq_div_mul]
  unfold bitsN
  split
  · rename_i h; rw [if_pos h] at hr; exact ⟨by omega, by simp; omega, by rw [← hr]; simp⟩
  · rename_i h; rw [if_neg h] at hr; exact ⟨by omega, by omega, hr⟩
theorem bits_pos {n p : Nat} (hn : n < 65536) (hp : p ≤ 16) (h : (0 : Int) < ((n / 2 ^ p : Nat) : Int)) : p < 16 := by
  have h1 : 0 < n / 2 ^ p := by generalize n / 2 ^ p = m at h ⊢; omega
  have h2 : n < 2 ^ 16 := hn
  have : p ≠ 16 := fun e => by subst e; rw [Nat.div_eq_of_lt h2] at h1; omega
  omega
theorem bits_end {n p : Nat} {acc : List Int} (h : ¬ (0 : Int) < ((n / 2 ^ p : Nat) : Int)) (hr : acc ++ bitsF (16 - p) p (n / 2 ^ p) = bitsS n) : acc = bitsS n := by
  have h1 : n / 2 ^ p = 0 := by generalize n / 2 ^ p = m at h; omega
  rw [h1, bitsF_zero, List.append_nil] at hr; exact hr
theorem c55 (n : Nat) (hn : n < 65536) : PCall Go.Proofs.Try.prog 55 [i64 n] (isl (bitsS n)) := by
  refine pcall_mk (v := []) (q := []) (N := 23) (rs := [.tmp 2]) Go.Proofs.Try.func55 rfl rfl rfl rfl rfl ?_
  refine awp_seq_k fun K1 hK1 => ?_
  refine awp_ops ?_
  simp (disch := omega) only [amL, sA]
  refine hK1 _ ?_
  refine awp_seq_k fun K2 hK2 => ?_
  refine awp_ops ?_
  simp (disch := omega) only [amL, sA]
  refine hK2 _ ?_
  refine awp_seq_k fun K3 hK3 => ?_
  refine awp_seq_k fun K4 hK4 => ?_
  refine awp_ops ?_
  simp (disch := omega) only [amL, sA]
  refine hK4 _ ?_
  refine awp_block ?_
  refine awp_adopt' 21 1 3 (by decide) rfl rfl ?_
  refine awp_loop_k (α := Nat × List Int) (fun x => ⟨T [(0, i64 n), (3, .own 21 x.2.length), (4, i64 (x.1 : Int))], O [(21, .arr 1 (x.2.map encI))]⟩) (fun x => 16 - x.1) (fun x => x.1 ≤ 16 ∧ x.2.length ≤ x.1 ∧ x.2 ++ bitsF (16 - x.1) x.1 (n / 2 ^ x.1) = bitsS n) (0, []) ?_ ?_ (fun x hx5 K5 hK5 => ?_)
  · simp [bitsS]
  · refine le_mk ?_ ?_ ?_ ?_ <;> (try simp (disch := omega) only [amL, sF, ↓reduceIte, reduceCtorEq]); all_goals rfl
  obtain ⟨p, acc⟩ := x; obtain ⟨hp, hal, hr⟩ := hx5; dsimp only at hp hal hr ⊢
  refine awp_seq_k fun K6 hK6 => ?_
  refine awp_seq_k fun K7 hK7 => ?_
  refine awp_ops ?_
  simp (disch := omega) only [wrapU, shrN, amL, amT, sA, sF, ↓reduceIte, reduceCtorEq]
  refine hK7 _ ?_
  refine awp_cond rfl (fun h => ?_) (fun h => ?_)
  ·first
   | exact Bool.noConfusion h
   |skip
    try simp only [decide_eq_true_eq] at h
    refine awp_skip ?_
    refine hK6 _ ?_
    refine awp_seq_k fun K8 hK8 => ?_
    refine awp_block ?_
    refine awp_seq_k fun K9 hK9 => ?_
    refine awp_ops ?_
    have hp16 := bits_pos hn hp (by assumption)
    simp (disch := omega) only [wrapU, shrN, amL, amT, sA, sF, sO, ↓reduceIte, reduceCtorEq]
    refine hK9 _ ?_
    refine awp_cond rfl (fun h => ?_) (fun h => ?_)
    ·first
     | exact Bool.noConfusion h
     |skip
      try simp only [decide_eq_true_eq] at h
      refine awp_ops ?_
      simp (disch := omega) only [amL, amT, sA, sE, sF, ↓reduceIte, reduceCtorEq]
      refine hK8 _ ?_
      refine awp_ops ?_
      simp (disch := omega) only [amL, amT, sA, sF, ↓reduceIte, reduceCtorEq]
      refine hK5 (p+1, bitsN n p acc) _ ?_ ?_ (le_mk ?_ ?_ ?_ ?_)
      all_goals (try simp (disch := omega) only [amL, sE, sF, ↓reduceIte, reduceCtorEq])
      all_goals first | omega | exact bitsN_next hp16 hal hr | (rw [bitsN, if_pos (by omega)]; simp; done) | (rw [bitsN, if_neg (by omega)]; done) | (omega)
    ·first
     | exact Bool.noConfusion h
     |skip
      try simp only [decide_eq_false_iff_not] at h
      refine awp_skip ?_
      refine hK8 _ ?_
      refine awp_ops ?_
      simp (disch := omega) only [amL, amT, sA, sF, ↓reduceIte, reduceCtorEq]
      refine hK5 (p+1, bitsN n p acc) _ ?_ ?_ (le_mk ?_ ?_ ?_ ?_)
      all_goals (try simp (disch := omega) only [amL, sE, sF, ↓reduceIte, reduceCtorEq])
      all_goals first | omega | exact bitsN_next hp16 hal hr | (rw [bitsN, if_pos (by omega)]; simp; done) | (rw [bitsN, if_neg (by omega)]; done) | (omega)
  ·first
   | exact Bool.noConfusion h
   |skip
    try simp only [decide_eq_false_iff_not] at h
    refine awp_exit ?_
    refine hK3 _ ?_
    refine awp_seq_k fun K10 hK10 => ?_
    refine awp_ops ?_
    simp (disch := omega) only [amL, sA, sF, ↓reduceIte, reduceCtorEq]
    refine hK10 _ ?_
    refine awp_ret ?_
    try simp (disch := omega) only [amL, ↓reduceIte]
    have e := bits_end h hr
    subst e
    rw [List.take_of_length_le (by simp)]
end AM.Try
end
/- The reference: the fewest payments. -/
section
namespace AM.Try
open Go AM AM.Duty
open Nat renaming reduceLT → sA, reduceAdd → sB, reduceMul → sC, reduceSub → sD, reduceLeDiff → sE, reduceEqDiff → sF, reduceBEq → sG
open Int renaming reduceAdd → sH, reduceSub → sI, reduceMul → sJ, reduceLT → sK, reduceLE → sL, reduceNeg → sM, reduceToNat → sN, reduceEq → sO
set_option maxHeartbeats 8000000
set_option maxRecDepth 100000
theorem shl1 {n : Nat} (h : n ≤ 16) : ((1 : Int) * 2 ^ (min n IntKind.i64.bits) : Int) = ((2 ^ n : Nat) : Int) := by
  have e : (2 : Int) ^ n = ((2 ^ n : Nat) : Int) := by rw [Int.natCast_pow]; rfl
  rw [Nat.min_eq_left (by simp only [IntKind.bits]; omega), e, Int.one_mul]
theorem pow_le {n : Nat} (h : n ≤ 16) : 2 ^ n ≤ 65536 := Nat.pow_le_pow_right (n := 2) (by decide) h
end AM.Try
end
/- The law of payments. -/
section
namespace AM.Try
open Go AM AM.Duty
open Nat renaming reduceLT → sA, reduceAdd → sB, reduceMul → sC, reduceSub → sD, reduceLeDiff → sE, reduceEqDiff → sF, reduceBEq → sG
open Int renaming reduceAdd → sH, reduceSub → sI, reduceMul → sJ, reduceLT → sK, reduceLE → sL, reduceNeg → sM, reduceToNat → sN, reduceEq → sO
set_option maxHeartbeats 8000000
set_option maxRecDepth 100000
theorem plan_all {last : Int} (hla : last ≤ 11) : ∀ {l : List Int} {s : Int}, -1 ≤ s → s ≤ 11 → (allS (stepDay last) s l).2 = planS last s l
  | [], _, _, _ => rfl
  | n :: r, s, h0, h1 => by
    have hw : IntKind.wrap .i64 (s + 1) = s + 1 := wrap64 (by omega) (by omega)
    simp only [allS, stepDay, hw, planS, inB]
    by_cases e1 : s < n
    · by_cases e2 : n ≤ last
      · have ih := plan_all hla (l := r) (s := n) (by omega) (by omega)
        rw [decide_eq_true (show s + 1 ≤ n by omega), decide_eq_true e2, decide_eq_true e1]
        simp only [Bool.and_self, if_true, Bool.true_and]
        exact ih
      · rw [decide_eq_false e2]; simp
    · rw [decide_eq_false (show ¬ s + 1 ≤ n by omega), decide_eq_false e1]; simp
theorem pr9 (a : Acc) (days : List Int) (most : Int) : provesA a days most = (decide (faultS a = 0) && (decide ((days.length : Int) ≤ most) && (planS a.last (-1) days && (!(truthsR a).isEmpty && holdsR a days)))) := by
  unfold provesA
  by_cases hf : faultS a = 0
  · have hla := last_in' hf
    have hg : (truthsL a).reverse.all (holds1 a days) = holdsR a days := good_eq hf days
    rw [plan_all (by omega) (by omega) (by omega), truths_empty hf, hg]
    split
    · rename_i h; rw [decide_eq_true h.1, decide_eq_true h.2.1, h.2.2]; rfl
    · rename_i h
      rw [decide_eq_true hf]
      cases hp : planS a.last (-1) days
      · simp
      · rw [decide_eq_false (fun x => h ⟨hf, x, hp⟩)]; rfl
  · rw [if_neg (fun x => hf x.1), decide_eq_false hf]; rfl
end AM.Try
end
/- The laws' own plays. -/
section
namespace AM.Try
open Go AM AM.Duty
open Nat renaming reduceLT → sA, reduceAdd → sB, reduceMul → sC, reduceSub → sD, reduceLeDiff → sE, reduceEqDiff → sF, reduceBEq → sG
open Int renaming reduceAdd → sH, reduceSub → sI, reduceMul → sJ, reduceLT → sK, reduceLE → sL, reduceNeg → sM, reduceToNat → sN, reduceEq → sO
set_option maxHeartbeats 8000000
set_option maxRecDepth 100000
def readyS (a : Acc) : Bool := thinS a && decide (faultS a = 0)
theorem c46 (a : Acc) : PCall Go.Proofs.Try.prog 46 [avA a] (bl (readyS a)) := by
  refine pcall_mk (v := []) (q := []) (N := 10) (rs := [.tmp 2]) Go.Proofs.Try.func46 rfl rfl rfl rfl rfl ?_
  cases hth : thinS a <;> by_cases hf : faultS a = 0
  all_goals try obtain ⟨hl1, hl2⟩ := thin_len hth
  all_goals
    refine awp_seq_k fun K1 hK1 => ?_
    refine awp_ops ?_
    simp (disch := omega) only [amL, sA, ↓reduceIte]
    refine hK1 _ ?_
    refine awp_seq_k fun K2 hK2 => ?_
    refine awp_ops ?_
    simp (disch := omega) only [amL, amT, sA, sB, sF, ↓reduceIte]
    repeat' first | (refine EG_dec (fun h => ?_) (fun h => ?_) <;> simp (disch := omega) only [h, ne_eq, hth, hf, amL, amT, sA, sB, sC, sD, sE, sF, sG, sH, sI, sJ, sK, sL, sM, sN, sO, ↓reduceIte, reduceCtorEq]) | (refine EG_cases (fun h => ?_) (fun h => ?_) <;> simp (disch := omega) only [h, ne_eq, hth, hf, amL, amT, sA, sB, sC, sD, sE, sF, sG, sH, sI, sJ, sK, sL, sM, sN, sO, ↓reduceIte, reduceCtorEq]) | (refine EC_intro (by kernel_rfl) rfl (c19t a) (by first | exact .inl rfl | exact .inr (.inl rfl)) ?_ ; simp (disch := omega) only [hth, amL, amT, sA, sB, sF, ↓reduceIte]) | (refine EC_intro (by kernel_rfl) rfl (c24 a (by omega) (by omega)) (by first | exact .inl rfl | exact .inr (.inl rfl)) ?_ ; simp (disch := omega) only [hf, amL, amT, sA, sF, ↓reduceIte])
    all_goals
     skip
     refine hK2 _ ?_
     refine awp_ret ?_
     try simp (disch := omega) only [amL, ↓reduceIte]
     all_goals first | (simp [readyS, hth, hf]; done) | (omega)
end AM.Try
end
/- Plain laws: truths, bounds, plays of two accounts. -/
section
namespace AM.Try
open Go AM AM.Duty
open Nat renaming reduceLT → sA, reduceAdd → sB, reduceMul → sC, reduceSub → sD, reduceLeDiff → sE, reduceEqDiff → sF, reduceBEq → sG
open Int renaming reduceAdd → sH, reduceSub → sI, reduceMul → sJ, reduceLT → sK, reduceLE → sL, reduceNeg → sM, reduceToNat → sN, reduceEq → sO
theorem debtsF_congr {a x : Acc} {t u p q : List Int} (h : ∀ (day : Nat) w, dayS a t p day w = dayS x u q day w) : ∀ (c day : Nat) w, debtsF a t p c day w = debtsF x u q c day w
  | 0, _, _ => rfl
  | c + 1, day, w => by simp only [debtsF]; rw [h, debtsF_congr h c]
theorem truthsR_congr {a x : Acc} (he : x.entries = a.entries) (h : ∀ t, isTruth x t = isTruth a t) : truthsR x = truthsR a := by
  have h1 : isTruth x = isTruth a := funext h
  have h2 : nthT x = nthT a := funext fun n => by unfold nthT; rw [he]
  have h3 : manyT x = manyT a := by unfold manyT; rw [he]
  unfold truthsR truthsTo
  rw [h1, h2, h3]
def leL : List Int → List Int → Prop
  | [], [] => True
  | a :: l, b :: m => a ≤ b ∧ leL l m
  | _, _ => False
theorem leL_keeps {b b' : Int} (hb : b ≤ b') : ∀ {d e : List Int}, leL d e → keepsS b e = true → keepsS b' d = true
  | [], [], _, _ => rfl
  | x :: d, y :: e, h, hk => by
    obtain ⟨h1, h2⟩ := h
    unfold keepsS at hk ⊢
    simp only [List.all_cons, Bool.and_eq_true, decide_eq_true_eq] at hk ⊢
    exact ⟨by omega, leL_keeps hb h2 hk.2⟩
  | [], _ :: _, h, _ => h.elim
  | _ :: _, [], h, _ => h.elim
theorem int_mono {i j d e : Int} (h0 : 0 ≤ i) (h1 : i ≤ j) (h2 : d ≤ e) : intS i d ≤ intS j e := by
  unfold intS
  by_cases hd : d ≤ 0
  · rw [if_pos hd]; split
    · omega
    · have : 0 ≤ e * j := Int.mul_nonneg (by omega) (by omega)
      omega
  · rw [if_neg hd, if_neg (by omega)]
    have h3 : d * i ≤ e * j := Int.mul_le_mul h2 h1 h0 (by omega)
    omega
def leW (w v : Wk) : Prop := w.debt ≤ v.debt ∧ alike w v
theorem step_le {rate day : Int} {e : Entry} {u : Int} {w v : Wk} (h : leW w v) : leW (stepE rate day e u w) (stepE rate day e u v) := by
  refine ⟨?_, step_alike h.2⟩
  have h1 := h.1
  unfold stepE
  split
  · exact h1
  · split
    · simp only []; omega
    · split
      · simp only []; omega
      · split
        · simp only []; omega
        · split
          · exact h1
          · exact h1
theorem day_le {rate day : Int} : ∀ {es : List Entry} {t : List Int} {w v : Wk}, leW w v → leW (dayF rate day es t w) (dayF rate day es t v)
  | [], t, w, v, h => by cases t <;> exact h
  | e :: es, [], w, v, h => h
  | e :: es, u :: us, w, v, h => day_le (es := es) (t := us) (step_le h)
theorem dayS_le {a x : Acc} (hr : x.rates = a.rates) (he : x.entries = a.entries) (hi : x.interest = a.interest) (h0 : 0 ≤ a.interest) {t p q : List Int} {day : Nat} (hpay : (if (day : Int) ∈ p then a.purse else 0) ≤ if (day : Int) ∈ q then x.purse else 0) {w v : Wk} (h : leW w v) : leW (dayS x t q day w) (dayS a t p day v) := by
  have h1 : leW (dayI x w) (dayI a v) := by
    obtain ⟨g1, g2, g3, g4⟩ := h
    have g5 := int_mono h0 (Int.le_refl _) g1
    refine ⟨?_, ?_, g3, g4⟩
    · simp only [dayI, hi]; omega
    · simp only [dayI, hi, g2]
  have h2 := day_le (rate := ratedX a.rates (day + 1)) (day := day) (es := a.entries) (t := t) h1
  obtain ⟨g1, g2⟩ := h2
  unfold dayS; rw [hr, he]; dsimp only
  split at hpay <;> split at hpay <;> rename_i e1 e2
  · rw [if_pos e1, if_pos e2]; exact ⟨by dsimp only; omega, g2⟩
  · rw [if_pos e1, if_neg e2]; exact ⟨by dsimp only; omega, g2⟩
  · rw [if_neg e1, if_pos e2]; exact ⟨by dsimp only; omega, g2⟩
  · rw [if_neg e1, if_neg e2]; exact ⟨g1, g2⟩
theorem debtsF_le {a x : Acc} {t p q : List Int} (hs : ∀ (day : Nat) w v, leW w v → leW (dayS x t q day w) (dayS a t p day v)) : ∀ (c day : Nat) w v, leW w v → leL (debtsF x t q c day w).1 (debtsF a t p c day v).1
  | 0, _, _, _, _ => trivial
  | c + 1, day, w, v, h => ⟨(hs day w v h).1, debtsF_le hs c (day + 1) _ _ (hs day w v h)⟩
theorem leW_refl (w : Wk) : leW w w := ⟨Int.le_refl _, rfl, rfl, rfl⟩
theorem holds_le {a x : Acc} (h0 : 0 ≤ a.interest) (hl : x.last = a.last) (hr : x.rates = a.rates) (he : x.entries = a.entries) (hi : x.interest = a.interest) (hb : a.bond ≤ x.bond) {p q : List Int} (hpay : ∀ day : Nat, (if (day : Int) ∈ p then a.purse else 0) ≤ if (day : Int) ∈ q then x.purse else 0) (h : holdsR a p = true) : holdsR x q = true := by
  have hT : truthsR x = truthsR a := truthsR_congr he fun t => by
    unfold isTruth debtsS
    rw [hl, debtsF_congr (a := x) (x := a) (t := t) (u := t) (p := []) (q := []) fun day w => ?_]
    unfold dayS dayI; rw [hr, he, hi]; simp
  unfold holdsR at h ⊢
  rw [hT]
  rw [List.all_eq_true] at h ⊢
  intro t ht
  refine leL_keeps hb ?_ (h t ht)
  unfold debtsS; rw [hl]
  exact debtsF_le (fun day w v hw => dayS_le hr he hi h0 (hpay day) hw) _ _ _ _ (leW_refl _)
theorem fault_bond {a : Acc} (hf : faultS a = 0) {b p : Int} (hb : 0 ≤ b) (hb2 : b ≤ 100000) (hp : 0 ≤ p) (hp2 : p ≤ 100000) : faultS { a with bond := b, purse := p } = 0 := by
  obtain ⟨z1, z2, z3, z4, z5, z6⟩ := fault_zero hf
  refine fault_of (a := { a with bond := b, purse := p }) z1 z2 ?_ z4 z5 z6
  simp only [inB, Bool.and_eq_true, decide_eq_true_eq] at z3 ⊢
  omega
end AM.Try
end
/- Plain laws: sets of entries by bits; one entry changed or left out. -/
section
namespace AM.Try
open Go AM AM.Duty
open Nat renaming reduceLT → sA, reduceAdd → sB, reduceMul → sC, reduceSub → sD, reduceLeDiff → sE, reduceEqDiff → sF, reduceBEq → sG
open Int renaming reduceAdd → sH, reduceSub → sI, reduceMul → sJ, reduceLT → sK, reduceLE → sL, reduceNeg → sM, reduceToNat → sN, reduceEq → sO
theorem bitsF_test : ∀ {c p n i : Nat}, ((i : Int) ∈ bitsF c p n) ↔ p ≤ i ∧ i < p + c ∧ n.testBit (i - p) = true
  | 0, p, n, i => by simp only [bitsF, List.not_mem_nil, false_iff]; omega
  | c + 1, p, n, i => by
    have ih := bitsF_test (c := c) (p := p + 1) (n := n / 2) (i := i)
    by_cases hi : i = p
    · subst hi
      have h0 : n.testBit 0 = decide (n % 2 = 1) := Nat.testBit_zero n
      have h1 : ¬ ((i : Int) ∈ bitsF c (i + 1) (n / 2)) := fun h => by have := (bitsF_test (c := c)).1 h; omega
      simp only [bitsF, Nat.sub_self, h0, decide_eq_true_eq]
      split
      · rename_i h; simp [h]
      · rename_i h; simp [h, h1]
    · have h2 : p + 1 ≤ i → n.testBit (i - p) = (n / 2).testBit (i - (p + 1)) := fun h => by
        rw [show i - p = (i - (p + 1)) + 1 by omega, Nat.testBit_succ]
      have h3 : ((i : Int) ∈ bitsF (c + 1) p n) ↔ ((i : Int) ∈ bitsF c (p + 1) (n / 2)) := by
        simp only [bitsF]
        split
        · rw [List.mem_cons]; exact ⟨fun h => h.resolve_left (by omega), .inr⟩
        · exact Iff.rfl
      rw [h3, ih]
      constructor
      · rintro ⟨h4, h5, h6⟩; exact ⟨by omega, by omega, by rw [h2 h4]; exact h6⟩
      · rintro ⟨h4, h5, h6⟩; exact ⟨by omega, by omega, by rw [← h2 (by omega)]; exact h6⟩
theorem bits_test {n i : Nat} : ((i : Int) ∈ bitsS n) ↔ i < 16 ∧ n.testBit i = true := by
  unfold bitsS; rw [bitsF_test]; simp
end AM.Try
end
/- The law of the fewest payments. -/
section
namespace AM.Try
open Go AM AM.Duty
open Nat renaming reduceLT → sA, reduceAdd → sB, reduceMul → sC, reduceSub → sD, reduceLeDiff → sE, reduceEqDiff → sF, reduceBEq → sG
open Int renaming reduceAdd → sH, reduceSub → sI, reduceMul → sJ, reduceLT → sK, reduceLE → sL, reduceNeg → sM, reduceToNat → sN, reduceEq → sO
set_option maxHeartbeats 8000000
set_option maxRecDepth 100000
theorem bv_nat {b n : Nat} (h : n < 2 ^ b) : (BitVec.ofInt b (n : Int)).toNat = n := by
  rw [BitVec.ofInt_natCast, BitVec.toNat_ofNat, Nat.mod_eq_of_lt h]
theorem fBin_and {P : Program} {t : TypeId} {k : TK} {a b : Nat} (ha : a < 9223372036854775808) (hb : b < 9223372036854775808) : fBin P t .and k (.p (.val (.int .i64 (a : Int)))) (.p (.val (.int .i64 (b : Int)))) = some (.pure (i64 ((a &&& b : Nat) : Int))) := by
  have h1 : IntKind.i64.wrap (((BitVec.ofInt IntKind.i64.bits (a : Int) &&& BitVec.ofInt IntKind.i64.bits (b : Int)).toNat : Nat) : Int) = ((a &&& b : Nat) : Int) := by
    rw [BitVec.toNat_and, bv_nat (Nat.lt_trans ha (by decide)), bv_nat (Nat.lt_trans hb (by decide))]
    have := Nat.and_le_left (n := a) (m := b)
    exact wrap64 (by omega) (by omega)
  show (binV .and (.int .i64 (a : Int)) (.int .i64 (b : Int))).map (fun v => Eff.pure (.p (.val v))) = _
  simp only [binV, bitsOp, if_true, h1, Option.map_some]
theorem bits_plan {a : Acc} (hf : faultS a = 0) (d : Nat) : planS a.last (-1) (bitsS (d % 2 ^ (a.last + 1).toNat)) = true ∧ (bitsS (d % 2 ^ (a.last + 1).toNat)).length ≤ 12 := by
  have hla := last_in' hf
  have h1 : 0 < 2 ^ (a.last + 1).toNat := Nat.pow_pos (by decide)
  have h2 := (bits_mem (k := (a.last + 1).toNat) (l := bitsS (d % 2 ^ (a.last + 1).toNat)) (by omega)).1 (List.mem_map.2 ⟨_, List.mem_range.2 (Nat.mod_lt _ h1), rfl⟩)
  rw [show ((a.last + 1).toNat : Int) - 1 = a.last by omega] at h2
  have h3 := plan_len (by omega) h2
  exact ⟨h2, by omega⟩
end AM.Try
end
/- The law of plans that stay plans. -/
section
namespace AM.Try
open Go AM AM.Duty
open Nat renaming reduceLT → sA, reduceAdd → sB, reduceMul → sC, reduceSub → sD, reduceLeDiff → sE, reduceEqDiff → sF, reduceBEq → sG
open Int renaming reduceAdd → sH, reduceSub → sI, reduceMul → sJ, reduceLT → sK, reduceLE → sL, reduceNeg → sM, reduceToNat → sN, reduceEq → sO
set_option maxHeartbeats 8000000
set_option maxRecDepth 100000
theorem fBin_or16 {P : Program} {t : TypeId} {k : TK} {a b : Nat} (ha : a < 65536) (hb : b < 65536) : fBin P t .or k (.p (.val (.int .u16 (a : Int)))) (.p (.val (.int .u16 (b : Int)))) = some (.pure (.p (.val (.int .u16 ((a ||| b : Nat) : Int))))) := by
  have h2 : a ||| b < 2 ^ 16 := Nat.or_lt_two_pow ha hb
  have h1 : IntKind.u16.wrap (((BitVec.ofInt IntKind.u16.bits (a : Int) ||| BitVec.ofInt IntKind.u16.bits (b : Int)).toNat : Nat) : Int) = ((a ||| b : Nat) : Int) := by
    rw [BitVec.toNat_or, bv_nat (Nat.lt_of_lt_of_le ha (by decide)), bv_nat (Nat.lt_of_lt_of_le hb (by decide))]
    simp only [IntKind.wrap, IntKind.signed, IntKind.bits]
    simp; omega
  show (binV .or (.int .u16 (a : Int)) (.int .u16 (b : Int))).map (fun v => Eff.pure (.p (.val v))) = _
  simp only [binV, bitsOp, if_true, h1, Option.map_some]
theorem bits_sub {d m N : Nat} {i : Nat} (h : (i : Int) ∈ bitsS (d % 2 ^ N)) : (i : Int) ∈ bitsS ((d ||| m) % 2 ^ N) := by
  rw [bits_test] at h ⊢
  refine ⟨h.1, ?_⟩
  have h2 := h.2
  rw [Nat.testBit_mod_two_pow] at h2 ⊢
  simp only [Bool.and_eq_true, decide_eq_true_eq] at h2 ⊢
  exact ⟨h2.1, by rw [Nat.testBit_or, h2.2]; rfl⟩
theorem pay_sub {p q : List Int} {x y : Int} (hx : 0 ≤ x) (hxy : x ≤ y) (h : ∀ i : Nat, (i : Int) ∈ p → (i : Int) ∈ q) (day : Nat) : (if (day : Int) ∈ p then x else 0) ≤ if (day : Int) ∈ q then y else 0 := by
  split
  · rename_i hp; rw [if_pos (h day hp)]; exact hxy
  · split
    · omega
    · omega
def mnN (v : Int) : Int := if v < 100000 then v else 100000
theorem mn_le {v b : Int} (h : v ≤ 100000) (hb : 0 ≤ b) : v ≤ mnN (v + b) ∧ mnN (v + b) ≤ 100000 := by unfold mnN; split <;> omega
theorem truths_same {a x : Acc} (hl : x.last = a.last) (hr : x.rates = a.rates) (he : x.entries = a.entries) (hi : x.interest = a.interest) : truthsR x = truthsR a := truthsR_congr he fun t => by
  unfold isTruth debtsS
  rw [hl, debtsF_congr (a := x) (x := a) (t := t) (u := t) (p := []) (q := []) fun day w => ?_]
  unfold dayS dayI; rw [hr, he, hi]; simp
theorem proves_more {a x : Acc} (hf : faultS a = 0) (hx : faultS x = 0) (hl : x.last = a.last) (hr : x.rates = a.rates) (he : x.entries = a.entries) (hi : x.interest = a.interest) (hb : a.bond ≤ x.bond) {p q : List Int} (hq : planS a.last (-1) q = true) (hlen : q.length ≤ 12) (hpay : ∀ day : Nat, (if (day : Int) ∈ p then a.purse else 0) ≤ if (day : Int) ∈ q then x.purse else 0)
    (h : provesA a p 12 = true) : provesA x q 12 = true := by
  rw [pr9] at h ⊢
  simp only [Bool.and_eq_true, decide_eq_true_eq] at h ⊢
  obtain ⟨_, _, _, h4, h5⟩ := h
  have h0 : 0 ≤ a.interest := by
    have := (fault_zero hf).2.2.1
    simp only [inB, Bool.and_eq_true, decide_eq_true_eq] at this
    omega
  exact ⟨hx, by omega, by rw [hl]; exact hq, by rw [truths_same hl hr he hi]; exact h4, holds_le h0 hl hr he hi hb hpay h5⟩
abbrev boA (a : Acc) (b : Int) : Acc := { a with bond := b }
abbrev puA (a : Acc) (b : Int) : Acc := { a with purse := b }
theorem c13 (a : Acc) (d e b : Nat) (hin : AccIn a) (h1 : d < 65536) (h2 : e < 65536) (h3 : b < 256) : PCall Go.Proofs.Try.prog 13 [avA a, .p (.val (.int .u16 (d : Int))), .p (.val (.int .u16 (e : Int))), .p (.val (.int .u8 (b : Int)))] (bl true) := by
  refine pcall_mk (v := []) (q := []) (N := 92) (rs := [.tmp 8]) Go.Proofs.Try.func13 rfl rfl rfl rfl rfl ?_
  have hin' := in_of hin
  have hwr : IntKind.i64.wrap (d : Int) = (d : Int) := wrap64 (by omega) (by omega)
  have hwo : d ||| e < 65536 := Nat.or_lt_two_pow (n := 16) h1 h2
  have hwr2 : IntKind.i64.wrap ((d ||| e : Nat) : Int) = ((d ||| e : Nat) : Int) := wrap64 (by omega) (by omega)
  have hwr3 : IntKind.i64.wrap (b : Int) = (b : Int) := wrap64 (by omega) (by omega)
  cases hr : readyS a <;> cases hP : provesA a (bitsS (d % 2 ^ (a.last + 1).toNat)) 12
  all_goals
    first
    | (have hrr : thinS a = true ∧ faultS a = 0 := by simpa [readyS] using hr
       obtain ⟨ht, hf⟩ := hrr
       obtain ⟨hl1, hl2⟩ := thin_len ht
       have hla := last_in hf
       have hz := (fault_zero hf).2.2.1
       simp only [inB, Bool.and_eq_true, decide_eq_true_eq] at hz
       have hb1 := mn_le (v := a.bond) (b := (b : Int)) (by omega) (by omega)
       have hb2 := mn_le (v := a.purse) (b := (b : Int)) (by omega) (by omega)
       have hbl := (bits_plan hf d).2
       have hbl2 := (bits_plan hf (d ||| e)).2
       have hpl := (bits_plan hf d).1
       have hpl2 := (bits_plan hf (d ||| e)).1
       have hm : ((a.last + 1).toNat : Int) = a.last + 1 := Int.toNat_of_nonneg (by omega)
       generalize hN : (a.last + 1).toNat = N at hm hP hbl hpl hbl2 hpl2
       have hsh := shl1 (n := N) (by omega)
       have hpo := pow_le (n := N) (by omega)
       have hpp : 0 < 2 ^ N := Nat.pow_pos (by decide)
       have hmask : ((2 ^ N : Nat) : Int) - 1 = ((2 ^ N - 1 : Nat) : Int) := by omega
       have hdm : d % 2 ^ N < 2 ^ N := Nat.mod_lt _ hpp
       have hdm2 : (d ||| e) % 2 ^ N < 2 ^ N := Nat.mod_lt _ hpp
       have hda : d &&& (2 ^ N - 1) = d % 2 ^ N := Nat.and_two_pow_sub_one_eq_mod d N
       have hda2 : (d ||| e) &&& (2 ^ N - 1) = (d ||| e) % 2 ^ N := Nat.and_two_pow_sub_one_eq_mod (d ||| e) N
       have hlo : 2 ^ N - 1 < 9223372036854775808 := by omega
       generalize hM : 2 ^ N - 1 = M at hmask hda hda2 hlo
       have hmn1 : (if a.bond + (b : Int) < 100000 then a.bond + (b : Int) else 100000) = mnN (a.bond + (b : Int)) := rfl
       have hmn2 : (if a.purse + (b : Int) < 100000 then a.purse + (b : Int) else 100000) = mnN (a.purse + (b : Int)) := rfl
       have hle : provesA a (bitsS (d % 2 ^ N)) (((bitsS (d % 2 ^ N)).length : Int) - 1) = false := by
         rw [pr9, decide_eq_false (show ¬ ((bitsS (d % 2 ^ N)).length : Int) ≤ ((bitsS (d % 2 ^ N)).length : Int) - 1 by omega)]; simp)
    | (have hf := hwr; have hm : (2 : Int) = 1 + 1 := rfl; have hsh := hwr; have hmask := hwr; have hda := hwr; have hda2 := hwr; have hmn1 := hwr; have hmn2 := hwr; have hle := hwr)
    first
    | (have hP1 : provesA a (bitsS ((d ||| e) % 2 ^ N)) 12 = true := proves_more hf hf rfl rfl rfl rfl (Int.le_refl _) hpl2 hbl2 (pay_sub (by omega) (Int.le_refl _) fun i hi => bits_sub hi) hP
       have hfB : faultS (boA a (mnN (a.bond + (b : Int)))) = 0 := fault_bond hf (by omega) hb1.2 (by omega) (by omega)
       have hfP : faultS (puA a (mnN (a.purse + (b : Int)))) = 0 := fault_bond hf (by omega) (by omega) (by omega) hb2.2
       have hP2 : provesA (boA a (mnN (a.bond + (b : Int)))) (bitsS (d % 2 ^ N)) 12 = true := proves_more hf hfB rfl rfl rfl rfl hb1.1 hpl hbl (pay_sub (by omega) (Int.le_refl _) fun i hi => hi) hP
       have hP3 : provesA (puA a (mnN (a.purse + (b : Int)))) (bitsS (d % 2 ^ N)) 12 = true := proves_more hf hfP rfl rfl rfl rfl (Int.le_refl _) hpl hbl (pay_sub (by omega) hb2.1 fun i hi => hi) hP)
    | (have hP1 := hwr; have hP2 := hwr; have hP3 := hwr)
  all_goals
    refine awp_seq_k fun K1 hK1 => ?_
    refine awp_ops ?_
    simp (disch := omega) only [amL, sA, sB, ↓reduceIte]
    refine hK1 _ ?_
    refine awp_seq_k fun K2 hK2 => ?_
    refine awp_seq_k fun K3 hK3 => ?_
    refine awp_ops ?_
    simp (disch := omega) only [amL, amT, sA, sB, sF, ↓reduceIte]
    repeat' first | (refine EC_intro (by kernel_rfl) rfl (c46 a) (by first | exact .inl rfl | exact .inr (.inl rfl)) ?_ ; simp (disch := omega) only [hr, amL, sA, ↓reduceIte])
    refine hK3 _ ?_
    refine awp_cond rfl (fun h => ?_) (fun h => ?_)
    ·first
     | exact Bool.noConfusion h
     |skip
      try simp only [] at h
      refine awp_seq_k fun K4 hK4 => ?_
      refine awp_ops ?_
      simp (disch := omega) only [amL]
      repeat' first | (refine EC_intro (by kernel_rfl) rfl (c20) (by first | exact .inl rfl | exact .inr (.inl rfl)) ?_ ; simp (disch := omega) only [amL, sA, ↓reduceIte])
      refine hK4 _ ?_
      refine awp_ret ?_
      try simp (disch := omega) only [amL, ↓reduceIte]
      all_goals first | rfl | (omega)
    ·first
     | exact Bool.noConfusion h
     |skip
      try simp only [] at h
      refine awp_skip ?_
      refine hK2 _ ?_
      refine awp_seq_k fun K5 hK5 => ?_
      refine awp_ops ?_
      simp (disch := omega) only [wrapU, ← hm, hsh, hmask, amL, amT, sA, sF, ↓reduceIte, reduceCtorEq]
      refine hK5 _ ?_
      refine awp_seq_k fun K6 hK6 => ?_
      refine awp_ops ?_
      simp (disch := omega) only [hP1, hwr, fBin_and, hda, amL, amT, sA, sF, ↓reduceIte, reduceCtorEq]
      repeat' first | (refine EC_intro (by kernel_rfl) rfl (by first | exact c55 (d % 2 ^ N) (by omega) | exact c55 ((d ||| e) % 2 ^ N) (by omega)) (by first | exact .inl rfl | exact .inr (.inl rfl)) ?_ ; simp (disch := omega) only [hwr2, fBin_and, fBin_or16, hda2, amL, amT, sA, sF, ↓reduceIte, reduceCtorEq])
      refine hK6 _ ?_
      refine awp_seq_k fun K7 hK7 => ?_
      refine awp_any3 [.sto [4] 12] (by kernel_rfl) (by kernel_rfl) ?_
      simp (disch := omega) only [amL, amT, sA, sB, sF, ↓reduceIte]
      refine ⟨by simp [Cf.ok, nameOf, T, AV.known, AV.clean], ?_⟩
      all_goals
       skip
       refine hK7 _ ?_
       refine awp_seq_k fun K8 hK8 => ?_
       refine awp_any3 [.sto [4] 50, .sto [44] 50, .sto [48] 50] (by kernel_rfl) (by kernel_rfl) ?_
       simp (disch := omega) only [hwr3, hmn1, hmn2, amL, amT, sA, sB, sE, sF, ↓reduceIte, reduceCtorEq]
       refine ⟨by simp [Cf.ok, nameOf, T, AV.known, AV.clean], ?_⟩
       all_goals
        skip
        refine hK8 _ ?_
        refine awp_seq_k fun K9 hK9 => ?_
        refine awp_seq_k fun K10 hK10 => ?_
        refine awp_ops ?_
        simp (disch := omega) only [amL, amT, sA, sB, sF, ↓reduceIte]
        repeat' first | (refine EC_intro (by kernel_rfl) rfl (by first | exact c22 a (by omega) (by omega) | exact c22 (boA a (mnN (a.bond + (b : Int)))) (Nat.lt_of_le_of_lt hl1 (by decide)) (Nat.lt_of_le_of_lt hl2 (by decide)) | exact c22 (puA a (mnN (a.purse + (b : Int)))) (Nat.lt_of_le_of_lt hl1 (by decide)) (Nat.lt_of_le_of_lt hl2 (by decide))) (by first | exact .inl rfl | exact .inr (.inl rfl)) ?_ ; simp (disch := omega) only [amL, sA, sF, ↓reduceIte]) | (refine EC_intro (by kernel_rfl) rfl (c23 _ (by omega)) (by first | exact .inl rfl | exact .inr (.inl rfl)) ?_ ; simp (disch := omega) only [amL, sF, ↓reduceIte]) | (refine EC_intro (by kernel_rfl) rfl (by first | exact c38 a _ _ (by omega) (by omega) hin' (by omega) | exact c38 (boA a (mnN (a.bond + (b : Int)))) _ _ (Nat.lt_of_le_of_lt hl1 (by decide)) (Nat.lt_of_le_of_lt hl2 (by decide)) hin' (by omega) | exact c38 (puA a (mnN (a.purse + (b : Int)))) _ _ (Nat.lt_of_le_of_lt hl1 (by decide)) (Nat.lt_of_le_of_lt hl2 (by decide)) hin' (by omega)) (by first | exact .inl rfl | exact .inr (.inl rfl)) ?_ ; simp (disch := omega) only [hP, amL, sA, ↓reduceIte])
        refine hK10 _ ?_
        refine awp_cond rfl (fun h => ?_) (fun h => ?_)
        ·first
         | exact Bool.noConfusion h
         |skip
          try simp only [] at h
          refine awp_seq_k fun K11 hK11 => ?_
          refine awp_ops ?_
          simp (disch := omega) only [amL]
          repeat' first | (refine EC_intro (by kernel_rfl) rfl (c20) (by first | exact .inl rfl | exact .inr (.inl rfl)) ?_ ; simp (disch := omega) only [amL, sA, ↓reduceIte])
          refine hK11 _ ?_
          refine awp_ret ?_
          try simp (disch := omega) only [amL, ↓reduceIte]
          all_goals first | rfl | (omega)
        ·first
         | exact Bool.noConfusion h
         |skip
          try simp only [] at h
          refine awp_skip ?_
          refine hK9 _ ?_
          refine awp_seq_k fun K12 hK12 => ?_
          refine awp_ops ?_
          simp (disch := omega) only [amL, amT, sA, sB, sF, ↓reduceIte]
          repeat' first | (refine EG_dec (fun h => ?_) (fun h => ?_) <;> simp (disch := omega) only [h, hr, hf, hP, hP1, hP2, hP3, hle, hwr, hwr2, hwr3, wrapU, ← hm, hsh, hmask, fBin_and, fBin_or16, hda, hda2, hmn1, hmn2, ne_eq, amL, amT, sA, sB, sC, sD, sE, sF, sG, sH, sI, sJ, sK, sL, sM, sN, sO, ↓reduceIte, reduceCtorEq]) | (refine EG_cases (fun h => ?_) (fun h => ?_) <;> simp (disch := omega) only [h, hr, hf, hP, hP1, hP2, hP3, hle, hwr, hwr2, hwr3, wrapU, ← hm, hsh, hmask, fBin_and, fBin_or16, hda, hda2, hmn1, hmn2, ne_eq, amL, amT, sA, sB, sC, sD, sE, sF, sG, sH, sI, sJ, sK, sL, sM, sN, sO, ↓reduceIte, reduceCtorEq]) | (refine EC_intro (by kernel_rfl) rfl (by first | exact c22 a (by omega) (by omega) | exact c22 (boA a (mnN (a.bond + (b : Int)))) (Nat.lt_of_le_of_lt hl1 (by decide)) (Nat.lt_of_le_of_lt hl2 (by decide)) | exact c22 (puA a (mnN (a.purse + (b : Int)))) (Nat.lt_of_le_of_lt hl1 (by decide)) (Nat.lt_of_le_of_lt hl2 (by decide))) (by first | exact .inl rfl | exact .inr (.inl rfl)) ?_ ; simp (disch := omega) only [amL, sA, sF, ↓reduceIte]) | (refine EC_intro (by kernel_rfl) rfl (c23 _ (by omega)) (by first | exact .inl rfl | exact .inr (.inl rfl)) ?_ ; simp (disch := omega) only [amL, amT, sA, sF, ↓reduceIte]) | (refine EC_intro (by kernel_rfl) rfl (by first | exact c38 a _ _ (by omega) (by omega) hin' (by omega) | exact c38 (boA a (mnN (a.bond + (b : Int)))) _ _ (Nat.lt_of_le_of_lt hl1 (by decide)) (Nat.lt_of_le_of_lt hl2 (by decide)) hin' (by omega) | exact c38 (puA a (mnN (a.purse + (b : Int)))) _ _ (Nat.lt_of_le_of_lt hl1 (by decide)) (Nat.lt_of_le_of_lt hl2 (by decide)) hin' (by omega)) (by first | exact .inl rfl | exact .inr (.inl rfl)) ?_ ; simp (disch := omega) only [hP1, hP2, hP3, hle, amL, amT, sA, sB, sF, ↓reduceIte]) | (refine EC_intro (by kernel_rfl) rfl (c20) (by first | exact .inl rfl | exact .inr (.inl rfl)) ?_ ; simp (disch := omega) only [amL, sA, sF, ↓reduceIte])
          all_goals
           skip
           refine hK12 _ ?_
           refine awp_ret ?_
           try simp (disch := omega) only [amL, ↓reduceIte]
           all_goals first | rfl | (omega)
end AM.Try
end
