/- Lemmas for the proof: more of the program's functions, walked on the abstract machine. -/
import Derived.Test.YtkmgffkfbocebaaP5
import Derived.Test.YtkmgffkfbocebaaRows
import Derived.ProofKit
import Derived.Deep.Slices
import Derived.ChangeStays
/- The reference: truths. -/
section
namespace AM.Try
open Go AM AM.Duty
open Nat renaming reduceLT → sA, reduceAdd → sB, reduceMul → sC, reduceSub → sD, reduceLeDiff → sE, reduceEqDiff → sF, reduceBEq → sG
open Int renaming reduceAdd → sH, reduceSub → sI, reduceMul → sJ, reduceLT → sK, reduceLE → sL, reduceNeg → sM, reduceToNat → sN, reduceEq → sO
set_option maxHeartbeats 4000000
def isTruth (a : Acc) (t : List Int) : Bool := (debtsS a t []).2
def nthT (a : Acc) (n : Nat) : List Int := nthS a.entries (n : Int)
def manyT (a : Acc) : Nat := (sizes a.entries).toNat
def possibleS (a : Acc) : Bool := (List.range (manyT a)).any fun n => isTruth a (nthT a n)
end AM.Try
end
/- The statements: what is read of the arguments is what the walks take; what a pure call leaves is what the statements ask. -/
section
namespace AM.Try
set_option maxRecDepth 100000
open Go AM AM.Duty Go.ChangeShapes Go.WideShapes Go.ChangeAt Go.RowKit
noncomputable abbrev TP : Program := Go.Proofs.Try.prog
theorem tp_laid : laidOutB TP = true := by kernel_rfl
theorem tp_maps : mapsRowed TP = true := by kernel_rfl
theorem tp_kids : Kids TP (· < TP.types.size) := kids_rows tp_laid tp_maps
theorem tp_full : ∀ t e, t < TP.types.size → TP.underlying t = some (.slice e) → 0 < TP.cellsOf e := slices_full_of TP (by kernel_rfl)
theorem tp_own : ownKnob TP.godebug = none := by kernel_rfl
section
variable {H : Type} {enc : TypeId × Value → H} {W W' : World}
theorem same_at (hk : Keeps (fun b => W.heap.size ≤ b) W W') {p : MemPlace} (hp : p.block < W.heap.size) : W.sameAt W' p := by
  have h := hk.same p.block hp (by omega)
  cases p with
  | cell b off => simp only [World.sameAt, World.cell?]; rw [show W'.heap[b]? = W.heap[b]? from h]
  | map b => exact h
theorem reads_again (hk : Keeps (fun b => W.heap.size ≤ b) W W') (sp : Nat → Bool) : ∀ {ts : List TypeId} {vs : List Value} {ds : List (DataW H)} {p : List MemPlace},
    (∀ t ∈ ts, t < TP.types.size) → DataW.TrodAll enc TP W 0 (fun _ => true) true ts vs ds p → (∀ x ∈ p, x.block < W.heap.size) → (∀ x ∈ p, sp x.block = true) → DataW.TrodAll enc TP W' 0 sp true ts vs ds p
  | [], [], [], _, _, h, _, _ => h
  | _ :: _, _ :: _, _ :: _, _, hT, ⟨p, q, ⟨n, h1⟩, h2, e⟩, hl, hs =>
    ⟨p, q, ⟨n, DataW.trod_stays tp_kids (fun ht hu => tp_full _ _ ht hu) (fun h => by cases h) (hT _ (List.mem_cons.2 (Or.inl rfl))) h1 (fun x hx => same_at hk (hl x (by rw [e]; exact List.mem_append_left _ hx))) (fun x hx => hs x (by rw [e]; exact List.mem_append_left _ hx))⟩,
      reads_again hk sp (fun t ht => hT t (List.mem_cons.2 (Or.inr ht))) h2 (fun x hx => hl x (by rw [e]; exact List.mem_append_right _ hx)) (fun x hx => hs x (by rw [e]; exact List.mem_append_right _ hx)), e⟩
theorem kept_of_keeps (hk : Keeps (fun b => W.heap.size ≤ b) W W') (may : MemPlace → Prop) : W.keptBut W' may := by
  refine ⟨hk.os, hk.output, fun i hi => ?_⟩
  have h := hk.same i hi (by omega)
  rw [h]
  cases W.heap[i]? with
  | none => rfl
  | some o => cases o <;> first | exact ⟨rfl, rfl, rfl, fun _ _ => rfl⟩ | exact .inr ⟨rfl, rfl⟩ | rfl
theorem law_post {fn : Func} {s : ChangeSpec} {args : Array Value} {ds gs : List (DataW H)} {before : List MemPlace} (hr : fn.resultTypes = #[4]) (hp : ∀ t ∈ fn.params.toList, t < TP.types.size) (hv : s.vars = [])
    (hfn : s.fn H (ds ++ gs) = { results := [.lit (.bool true)], args := ds }) (hW : DataW.Whole enc TP fn.params.toList s.vars false W args.toList ds gs before) (hk : Keeps (fun b => W.heap.size ≤ b) W W') :
    s.post enc TP fn false true false false W args (.bool true) W' := by
  have hW0 := hW
  obtain ⟨p, q, hA, hV, rfl, hz, hn⟩ := hW
  rw [hv] at hV
  obtain ⟨rfl, rfl⟩ := trodVars_none hV
  have hlt : ∀ x ∈ p, x.block < W.heap.size := hA.lt
  refine ⟨ds, [], p ++ [], [], p, [], hW0, ?_, ?_, ?_, World.keptBut_mono (fun x hx => ⟨hx, .inr (.inl (by simpa using hx))⟩) (kept_of_keeps hk _), fun h => by cases h⟩
  · rw [hfn, hr]; exact trodAll_mk1 (shut_bool Go.Proofs.Try.underlying4 true)
  · rw [hfn]; exact reads_again hk _ hp hA hlt (fun x hx => by simpa using hlt x hx)
  · rw [hfn, hv]; rfl
theorem law_calls {f : FuncId} {avs : List AV} {fn : Func} {s : ChangeSpec} {args : Array Value} {ds gs : List (DataW H)} {before : List MemPlace} (hc : PCall TP f avs (bl true)) (hsz : args.size = avs.length) (hrel : ∀ θ (i : Nat) (x : AV), avs[i]? = some x → ARel θ (fun _ => False) W x (args.getD i undef))
    (hr : fn.resultTypes = #[4]) (hp : ∀ t ∈ fn.params.toList, t < TP.types.size) (hv : s.vars = []) (hfn : s.fn H (ds ++ gs) = { results := [.lit (.bool true)], args := ds }) (hW : DataW.Whole enc TP fn.params.toList s.vars false W args.toList ds gs before) :
    Calls TP f args W fun e W' => ∃ v, e = .returned v ∧ s.post enc TP fn false true false false W args v W' := by
  refine (hc.2 (fun _ => ⟨0, 0, true⟩) (fun _ => False) W args (fun b h => h.elim) hsz (fun i x hx => hrel _ i x hx)).mono ?_
  rintro e W' ⟨v, rfl, hv', hk⟩
  cases hv' with
  | p _ _ h =>
    cases h with
    | val _ _ => exact ⟨_, rfl, law_post hr hp hv hfn hW hk⟩
theorem prel_rows {rows : List (List Int)} {b o len cap k : Nat} (hlen : rows.length = len) (hc : len ≤ cap) (hk : ∀ r ∈ rows, r.length = k)
    (hcell : ∀ (i : Nat) (r : List Int) (j : Nat) (m : Int), rows[i]? = some r → r[j]? = some m → W.cell? ⟨b, o + (i * k + j), none⟩ = some (.int .i64 m)) : PRel (fun _ => False) W (.sl (rows.map fun r => r.map iv)) (.slice (some ⟨b, o, none⟩) len cap) := by
  have h := PRel.sl (M := fun _ => False) (w := W) (rows.map fun r => r.map iv) b o cap k (fun i j => (W.cell? ⟨b, o + (i * k + j), none⟩).getD undef) (fun i e he => ?_) (by rw [List.length_map, hlen]; exact hc) (fun i e j x he hx => ?_) (fun i e j x he hx => ?_)
  · rw [List.length_map, hlen] at h; exact h
  · simp only [List.getElem?_map, Option.map_eq_some_iff] at he
    obtain ⟨r, hr, rfl⟩ := he
    rw [List.length_map]; exact hk r (List.mem_of_getElem? hr)
  all_goals
    simp only [List.getElem?_map, Option.map_eq_some_iff] at he
    obtain ⟨r, hr, rfl⟩ := he
    simp only [List.getElem?_map, Option.map_eq_some_iff] at hx
    obtain ⟨m, hm, rfl⟩ := hx
    have hc := hcell i r j m hr hm
    rw [hc]
  · exact ⟨fun h => h, rfl⟩
  · exact .val _ rfl
theorem inR_wf {m : Int} (h : (Lit.int .i64 m).wf = true) : inR m = true := by
  simp only [Lit.wf, IntKind.min, IntKind.max, IntKind.signed, IntKind.bits, Bool.and_eq_true, decide_eq_true_eq] at h
  simp only [inR, Bool.and_eq_true, decide_eq_true_eq]
  constructor <;> simp_all
theorem add_none {b o i : Nat} : Addr.add ⟨b, o, none⟩ i = ⟨b, o + i, none⟩ := by
  unfold Addr.add
  split
  · rename_i h; simp_all
  · rfl
theorem open_recs {t e k fuel : Nat} {cs : List Value} {x : DataW H × List MemPlace} (ht : TP.underlying t = some (.slice e)) (hk : TP.cellsOf e = k)
    (hel : ∀ n cs x, DataW.trod enc TP W 0 (fun _ => true) true n e cs = some x → ∃ ms : List Int, cs = ms.map (fun m => Value.int .i64 m) ∧ ms.length = k ∧ ∀ m ∈ ms, inR m = true)
    (h : DataW.trod enc TP W 0 (fun _ => true) true fuel t cs = some x) (hsp : ∀ a len cap, cs = [.slice (some a) len cap] → a.spot = none) :
    ∃ rows : List (List Int), (∀ r ∈ rows, r.length = k ∧ ∀ m ∈ r, inR m = true) ∧ ∃ v, cs = [v] ∧ PRel (fun _ => False) W (.sl (rows.map fun r => r.map iv)) v := by
  rcases Go.Deep.open_slice ht h with ⟨rfl, _⟩ | ⟨a, len, cap, m, n, D, Pl, rfl, _, hl, hm, hmm, _, hi⟩
  · exact ⟨[], by simp, _, rfl, .nil⟩
  · have hs := hsp a len cap rfl
    obtain ⟨b, o, sp⟩ := a
    dsimp only at hs; subst hs
    simp only [if_true] at hmm
    subst hmm
    obtain ⟨F, hF⟩ := Go.Deep.choose_lt (α := List Int) (n := m) (p := fun i ms => W.cells? 0 (Addr.add ⟨b, o, none⟩ (i * k)) k = some (ms.map fun m => Value.int .i64 m) ∧ ms.length = k ∧ ∀ m ∈ ms, inR m = true) (fun i h1 => by
      obtain ⟨cs', h2, h3⟩ := hi i h1
      obtain ⟨ms, rfl, h4, h5⟩ := hel _ _ _ h3
      rw [hk] at h2
      exact ⟨ms, h2, h4, h5⟩)
    refine ⟨(List.range len).map F, fun r hr => ?_, _, rfl, prel_rows (k := k) (by simp) hl (fun r hr => ?_) (fun i r j m hr hm => ?_)⟩
    · obtain ⟨i, h1, rfl⟩ := List.mem_map.1 hr
      exact (hF i (by have := List.mem_range.1 h1; omega)).2
    · obtain ⟨i, h1, rfl⟩ := List.mem_map.1 hr
      exact (hF i (by have := List.mem_range.1 h1; omega)).2.1
    · simp only [List.getElem?_map, Option.map_eq_some_iff] at hr
      obtain ⟨i', h1, rfl⟩ := hr
      have hlt : i < len := by
        have := (List.getElem?_eq_some_iff.1 h1).1; simpa using this
      have e : i' = i := by
        rw [List.getElem?_range hlt] at h1; exact (Option.some.inj h1).symm
      subst e
      obtain ⟨h2, h3, _⟩ := hF i' (by omega)
      obtain ⟨_, _, h4⟩ := World.cells?_some h2
      have hj : j < k := by rw [← h3]; exact (List.getElem?_eq_some_iff.1 hm).1
      have h5 := h4 j hj
      rw [List.getElem?_map, hm] at h5
      rw [add_none, add_none, Nat.add_assoc] at h5
      exact h5
theorem el3 (n : Nat) (cs : List Value) (x : DataW H × List MemPlace) (h : DataW.trod enc TP W 0 (fun _ => true) true n 3 cs = some x) : ∃ ms : List Int, cs = ms.map (fun m => Value.int .i64 m) ∧ ms.length = 1 ∧ ∀ m ∈ ms, inR m = true := by
  obtain ⟨m, rfl, _, hw⟩ := DataW.trod_int Go.Proofs.Try.underlying3 h
  exact ⟨[m], rfl, rfl, fun y hy => by rw [List.mem_singleton.1 hy]; exact inR_wf hw⟩
theorem cells3 : TP.cellsOf 3 = 1 := by kernel_rfl
theorem cells92 : TP.cellsOf 92 = 2 := by kernel_rfl
theorem cells56 : TP.cellsOf 56 = 2 := by kernel_rfl
theorem cells78 : TP.cellsOf 78 = 5 := by kernel_rfl
theorem cells25 : TP.cellsOf 25 = 6 := by kernel_rfl
theorem cells22 : TP.cellsOf 22 = 1 := by kernel_rfl
theorem cells23 : TP.cellsOf 23 = 1 := by kernel_rfl
theorem one_of {cs : List Value} {j : Nat} {ms : List Int} (h1 : (cs.drop j).take 1 = ms.map (fun m => Value.int .i64 m)) (h2 : ms.length = 1) (h3 : ∀ m ∈ ms, inR m = true) : ∃ m, cs[j]? = some (.int .i64 m) ∧ inR m = true := by
  obtain ⟨m, rfl⟩ := List.length_eq_one_iff.1 h2
  refine ⟨m, ?_, h3 m (by simp)⟩
  have h := congrArg (fun l => l[0]?) h1
  simpa using h
theorem at3 {n j : Nat} {cs : List Value} {x : DataW H × List MemPlace} (h : DataW.trod enc TP W 0 (fun _ => true) true n 3 ((cs.drop j).take 1) = some x) : ∃ m, cs[j]? = some (.int .i64 m) ∧ inR m = true := by
  obtain ⟨ms, h1, h2, h3⟩ := el3 _ _ _ h
  exact one_of h1 h2 h3
theorem two_struct {e n : Nat} {f0 f1 : Field} {cs : List Value} {x : DataW H × List MemPlace} (he : TP.underlying e = some (.struct #[f0, f1])) (hc : TP.cellsOf e = 2) (h0 : f0.type = 3 ∧ f0.offset = 0) (h1 : f1.type = 3 ∧ f1.offset = 1)
    (h : DataW.trod enc TP W 0 (fun _ => true) true n e cs = some x) : ∃ ms : List Int, cs = ms.map (fun m => Value.int .i64 m) ∧ ms.length = 2 ∧ ∀ m ∈ ms, inR m = true := by
  obtain ⟨xs, n', _, _, hl, hxs, hf⟩ := DataW.trod_struct he h
  have hxs : xs.length = 2 := hxs
  match xs, hxs with
  | [y0, y1], _ =>
    have g0 := hf 0 f0 rfl
    have g1 := hf 1 f1 rfl
    rw [h0.1, h0.2, cells3] at g0
    rw [h1.1, h1.2, cells3] at g1
    obtain ⟨a, ha, wa⟩ := at3 g0
    obtain ⟨b, hb, wb⟩ := at3 g1
    rw [hc] at hl
    match cs, hl with
    | [c0, c1], _ =>
      simp only [List.getElem?_cons_zero, Option.some.injEq] at ha
      simp only [List.getElem?_cons_succ, List.getElem?_cons_zero, Option.some.injEq] at hb
      subst ha hb
      exact ⟨[a, b], rfl, rfl, fun y hy => by simp at hy; rcases hy with rfl | rfl <;> assumption⟩
theorem el92 (n : Nat) (cs : List Value) (x : DataW H × List MemPlace) (h : DataW.trod enc TP W 0 (fun _ => true) true n 92 cs = some x) : ∃ ms : List Int, cs = ms.map (fun m => Value.int .i64 m) ∧ ms.length = 2 ∧ ∀ m ∈ ms, inR m = true :=
  two_struct Go.Proofs.Try.underlying92 cells92 ⟨rfl, rfl⟩ ⟨rfl, rfl⟩ h
theorem four_struct {e n : Nat} {f0 f1 f2 f3 : Field} {cs : List Value} {x : DataW H × List MemPlace} (he : TP.underlying e = some (.struct #[f0, f1, f2, f3])) (hc : TP.cellsOf e = 5) (h0 : f0.type = 3 ∧ f0.offset = 0) (h1 : f1.type = 3 ∧ f1.offset = 1) (h2 : f2.type = 56 ∧ f2.offset = 2) (h3 : f3.type = 3 ∧ f3.offset = 4)
    (h : DataW.trod enc TP W 0 (fun _ => true) true n e cs = some x) : ∃ ms : List Int, cs = ms.map (fun m => Value.int .i64 m) ∧ ms.length = 5 ∧ ∀ m ∈ ms, inR m = true := by
  obtain ⟨xs, n', _, _, hl, hxs, hf⟩ := DataW.trod_struct he h
  have hxs : xs.length = 4 := hxs
  match xs, hxs with
  | [y0, y1, y2, y3], _ =>
    have g0 := hf 0 f0 rfl
    have g1 := hf 1 f1 rfl
    have g2 := hf 2 f2 rfl
    have g3 := hf 3 f3 rfl
    rw [h0.1, h0.2, cells3] at g0
    rw [h1.1, h1.2, cells3] at g1
    rw [h2.1, h2.2, cells56] at g2
    rw [h3.1, h3.2, cells3] at g3
    obtain ⟨a, ha, wa⟩ := at3 g0
    obtain ⟨b, hb, wb⟩ := at3 g1
    obtain ⟨ms, k1, k2, k3⟩ := two_struct Go.Proofs.Try.underlying56 cells56 ⟨rfl, rfl⟩ ⟨rfl, rfl⟩ g2
    obtain ⟨c, hc', wc⟩ := at3 g3
    rw [hc] at hl
    match cs, hl, ms, k2 with
    | [c0, c1, c2, c3, c4], _, [m0, m1], _ =>
      simp at ha hb hc' k1
      obtain ⟨rfl, rfl⟩ := k1
      subst ha hb hc'
      exact ⟨[a, b, m0, m1, c], rfl, rfl, fun y hy => by
        simp at hy
        rcases hy with rfl | rfl | rfl | rfl | rfl
        · exact wa
        · exact wb
        · exact k3 _ (by simp)
        · exact k3 _ (by simp)
        · exact wc⟩
theorem el78 (n : Nat) (cs : List Value) (x : DataW H × List MemPlace) (h : DataW.trod enc TP W 0 (fun _ => true) true n 78 cs = some x) : ∃ ms : List Int, cs = ms.map (fun m => Value.int .i64 m) ∧ ms.length = 5 ∧ ∀ m ∈ ms, inR m = true :=
  four_struct Go.Proofs.Try.underlying78 cells78 ⟨rfl, rfl⟩ ⟨rfl, rfl⟩ ⟨rfl, rfl⟩ ⟨rfl, rfl⟩ h
theorem sl_at {t j n : Nat} {cs : List Value} {x : DataW H × List MemPlace} (h : DataW.trod enc TP W 0 (fun _ => true) true n t ((cs.drop j).take 1) = some x) (hj : j < cs.length) : ∃ v, cs[j]? = some v ∧ DataW.trod enc TP W 0 (fun _ => true) true n t [v] = some x := by
  refine ⟨cs[j], List.getElem?_eq_getElem hj, ?_⟩
  rw [List.drop_eq_getElem_cons hj] at h
  exact h
def AccIn (a : Acc) : Prop := (inR a.last = true ∧ inR a.interest = true ∧ inR a.bond = true ∧ inR a.purse = true) ∧ (∀ r ∈ a.rates, inR r.day = true ∧ inR r.pence = true) ∧ ∀ e ∈ a.entries, inR e.kind = true ∧ inR e.day = true ∧ inR e.lo = true ∧ inR e.hi = true ∧ inR e.pence = true
def mkR (l : List Int) : Rate := ⟨l.getD 0 0, l.getD 1 0⟩
def mkE (l : List Int) : Entry := ⟨l.getD 0 0, l.getD 1 0, l.getD 2 0, l.getD 3 0, l.getD 4 0⟩
theorem encR_mk {l : List Int} (h : l.length = 2) : encR (mkR l) = l.map iv := by
  match l, h with
  | [a, b], _ => rfl
theorem encE_mk {l : List Int} (h : l.length = 5) : encE (mkE l) = l.map iv := by
  match l, h with
  | [a, b, c, d, e], _ => rfl
theorem six_struct {e n : Nat} {f0 f1 f2 f3 f4 f5 : Field} {cs : List Value} {x : DataW H × List MemPlace} (he : TP.underlying e = some (.struct #[f0, f1, f2, f3, f4, f5])) (hc : TP.cellsOf e = 6) (h0 : f0.type = 3 ∧ f0.offset = 0) (h1 : f1.type = 3 ∧ f1.offset = 1) (h2 : f2.type = 3 ∧ f2.offset = 2) (h3 : f3.type = 3 ∧ f3.offset = 3) (h4 : f4.type = 22 ∧ f4.offset = 4) (h5 : f5.type = 23 ∧ f5.offset = 5)
    (hs4 : ∀ b len cap, cs[4]? = some (.slice (some b) len cap) → b.spot = none) (hs5 : ∀ b len cap, cs[5]? = some (.slice (some b) len cap) → b.spot = none)
    (h : DataW.trod enc TP W 0 (fun _ => true) true n e cs = some x) : ∃ a : Acc, AccIn a ∧ ∀ θ, ARel θ (fun _ => False) W (avA a) (.agg cs.toArray) := by
  obtain ⟨xs, n', _, _, hl, hxs, hf⟩ := DataW.trod_struct he h
  have hxs : xs.length = 6 := hxs
  match xs, hxs with
  | [y0, y1, y2, y3, y4, y5], _ =>
    have g0 := hf 0 f0 rfl
    have g1 := hf 1 f1 rfl
    have g2 := hf 2 f2 rfl
    have g3 := hf 3 f3 rfl
    have g4 := hf 4 f4 rfl
    have g5 := hf 5 f5 rfl
    rw [h0.1, h0.2, cells3] at g0
    rw [h1.1, h1.2, cells3] at g1
    rw [h2.1, h2.2, cells3] at g2
    rw [h3.1, h3.2, cells3] at g3
    rw [h4.1, h4.2, cells22] at g4
    rw [h5.1, h5.2, cells23] at g5
    obtain ⟨a, ha, wa⟩ := at3 g0
    obtain ⟨b, hb, wb⟩ := at3 g1
    obtain ⟨c, hc', wc⟩ := at3 g2
    obtain ⟨d, hd, wd⟩ := at3 g3
    rw [hc] at hl
    obtain ⟨v4, hv4, k4⟩ := sl_at g4 (by omega)
    obtain ⟨v5, hv5, k5⟩ := sl_at g5 (by omega)
    obtain ⟨rs, r1, v4', r2, r3⟩ := open_recs Go.Proofs.Try.underlying22 cells92 el92 k4 (fun b len cap e => hs4 b len cap (by rw [hv4, List.head_eq_of_cons_eq e]))
    obtain ⟨es, e1, v5', e2, e3⟩ := open_recs Go.Proofs.Try.underlying23 cells78 el78 k5 (fun b len cap e => hs5 b len cap (by rw [hv5, List.head_eq_of_cons_eq e]))
    have r2 := List.head_eq_of_cons_eq r2
    have e2 := List.head_eq_of_cons_eq e2
    subst r2 e2
    match cs, hl with
    | [c0, c1, c2, c3, c4, c5], _ =>
      simp at ha hb hc' hd hv4 hv5
      subst ha hb hc' hd hv4 hv5
      have hrs : (rs.map mkR).map encR = rs.map fun r => r.map iv := by
        rw [List.map_map]; exact List.map_congr_left fun r hr => encR_mk (r1 r hr).1
      have hes : (es.map mkE).map encE = es.map fun r => r.map iv := by
        rw [List.map_map]; exact List.map_congr_left fun r hr => encE_mk (e1 r hr).1
      refine ⟨⟨a, b, c, d, rs.map mkR, es.map mkE⟩, ⟨⟨wa, wb, wc, wd⟩, fun r hr => ?_, fun e he => ?_⟩, fun θ => .agg _ _ rfl (fun i hi => ?_) (fun i x hx => ?_)⟩
      · obtain ⟨l, hl, rfl⟩ := List.mem_map.1 hr
        obtain ⟨h1, h2⟩ := r1 l hl
        match l, h1 with
        | [p, q], _ => exact ⟨h2 _ (by simp [mkR]), h2 _ (by simp [mkR])⟩
      · obtain ⟨l, hl, rfl⟩ := List.mem_map.1 he
        obtain ⟨h1, h2⟩ := e1 l hl
        match l, h1 with
        | [p, q, r, s, u], _ => exact ⟨h2 _ (by simp [mkE]), h2 _ (by simp [mkE]), h2 _ (by simp [mkE]), h2 _ (by simp [mkE]), h2 _ (by simp [mkE])⟩
      · have hr := r3.oneCell
        have he := e3.oneCell
        match i, hi with
        | 0, _ => rfl
        | 1, _ => rfl
        | 2, _ => rfl
        | 3, _ => rfl
        | 4, _ => exact hr
        | 5, _ => exact he
      · match i, hx with
        | 0, hx => cases hx; exact .p _ _ (.val _ rfl)
        | 1, hx => cases hx; exact .p _ _ (.val _ rfl)
        | 2, hx => cases hx; exact .p _ _ (.val _ rfl)
        | 3, hx => cases hx; exact .p _ _ (.val _ rfl)
        | 4, hx => cases hx; dsimp only; rw [hrs]; exact .p _ _ r3
        | 5, hx => cases hx; dsimp only; rw [hes]; exact .p _ _ e3
theorem types25 : TP.cellTypes TP.depth 25 = some [3, 3, 3, 3, 22, 23] := by kernel_rfl
theorem open_acc {base : Nat} {v : Value} {d : DataW H} {p : List MemPlace} (hv : Value.okWide TP W .any base 25 v) (h : DataW.Trod enc TP W 0 (fun _ => true) true 25 v d p) : ∃ a : Acc, AccIn a ∧ ∀ θ, ARel θ (fun _ => False) W (avA a) v := by
  simp only [Value.okWide, Go.Proofs.Try.underlying25] at hv
  obtain ⟨cs, rfl, _, ts, hts, _, hall⟩ := hv
  rw [types25] at hts
  cases hts
  obtain ⟨n, hn⟩ := h
  obtain ⟨l⟩ := cs
  refine six_struct Go.Proofs.Try.underlying25 cells25 ⟨rfl, rfl⟩ ⟨rfl, rfl⟩ ⟨rfl, rfl⟩ ⟨rfl, rfl⟩ ⟨rfl, rfl⟩ ⟨rfl, rfl⟩ (fun b len cap hb => ?_) (fun b len cap hb => ?_) hn
  · obtain ⟨u, hu, hok⟩ := hall 4 _ (by simpa using hb)
    simp at hu; subst hu
    simp only [Go.Proofs.Try.underlying22, Cell.okWide, Cell.ok, World.has] at hok
    exact hok.2.2.2.1
  · obtain ⟨u, hu, hok⟩ := hall 5 _ (by simpa using hb)
    simp at hu; subst hu
    simp only [Go.Proofs.Try.underlying23, Cell.okWide, Cell.ok, World.has] at hok
    exact hok.2.2.2.1
end
end AM.Try
end
/- The law of plays. -/
section
namespace AM.Try
open Go AM AM.Duty
open Nat renaming reduceLT → sA, reduceAdd → sB, reduceMul → sC, reduceSub → sD, reduceLeDiff → sE, reduceEqDiff → sF, reduceBEq → sG
open Int renaming reduceAdd → sH, reduceSub → sI, reduceMul → sJ, reduceLT → sK, reduceLE → sL, reduceNeg → sM, reduceToNat → sN, reduceEq → sO
set_option maxHeartbeats 8000000
set_option maxRecDepth 100000
theorem c24 (a : Acc) (hl1 : a.rates.length < 1000000) (hl2 : a.entries.length < 1000000) : PCall Go.Proofs.Try.prog 24 [avA a] (i64 (faultS a)) := by
  refine pcall_mk (v := []) (q := []) (N := 5) (rs := [.tmp 2]) Go.Proofs.Try.func24 rfl rfl rfl rfl rfl ?_
  refine awp_seq_k fun K1 hK1 => ?_
  refine awp_ops ?_
  simp (disch := omega) only [amL, sA, ↓reduceIte]
  refine hK1 _ ?_
  refine awp_seq_k fun K2 hK2 => ?_
  refine awp_ops ?_
  simp (disch := omega) only [amL, amT, sA, sB, sF, ↓reduceIte]
  repeat' first | (refine EC_intro (by kernel_rfl) rfl (c61 a hl1 hl2) (by first | exact .inl rfl | exact .inr (.inl rfl)) ?_ ; simp (disch := omega) only [amL, sA, ↓reduceIte])
  refine hK2 _ ?_
  refine awp_ret ?_
  try simp (disch := omega) only [amL, ↓reduceIte]
  skip
theorem debts_len {a : Acc} {t paid : List Int} : ∀ {c day : Nat} {w : Wk}, (debtsF a t paid c day w).1.length = c
  | 0, _, _ => rfl
  | c + 1, day, w => by simp only [debtsF, List.length_cons, debts_len]
theorem in_of {a : Acc} (h : AccIn a) : ∀ e ∈ a.entries, inR e.lo = true ∧ inR e.hi = true := fun e he => ⟨(h.2.2 e he).2.2.1, (h.2.2 e he).2.2.2.1⟩
end AM.Try
end
/- The laws' conditions; the reference: truths. -/
section
namespace AM.Try
open Go AM AM.Duty
open Nat renaming reduceLT → sA, reduceAdd → sB, reduceMul → sC, reduceSub → sD, reduceLeDiff → sE, reduceEqDiff → sF, reduceBEq → sG
open Int renaming reduceAdd → sH, reduceSub → sI, reduceMul → sJ, reduceLT → sK, reduceLE → sL, reduceNeg → sM, reduceToNat → sN, reduceEq → sO
set_option maxHeartbeats 8000000
set_option maxRecDepth 100000
def thinS (a : Acc) : Bool := decide (a.rates.length ≤ 7) && decide (a.entries.length ≤ 11)
theorem c19t (a : Acc) : PCall Go.Proofs.Try.prog 19 [avA a] (bl (thinS a)) := c19 a
theorem thin_len {a : Acc} (h : thinS a = true) : a.rates.length ≤ 7 ∧ a.entries.length ≤ 11 := by simpa [thinS] using h
end AM.Try
end
/- The reference: all truths. -/
section
namespace AM.Try
open Go AM AM.Duty
open Nat renaming reduceLT → sA, reduceAdd → sB, reduceMul → sC, reduceSub → sD, reduceLeDiff → sE, reduceEqDiff → sF, reduceBEq → sG
open Int renaming reduceAdd → sH, reduceSub → sI, reduceMul → sJ, reduceLT → sK, reduceLE → sL, reduceNeg → sM, reduceToNat → sN, reduceEq → sO
set_option maxHeartbeats 8000000
set_option maxRecDepth 100000
def truthsTo (a : Acc) (k : Nat) : List (List Int) := ((List.range k).map (nthT a)).filter (isTruth a)
def truthsR (a : Acc) : List (List Int) := truthsTo a (manyT a)
end AM.Try
end
/- The reference: the bounds of a day, whether the bond is kept. -/
section
namespace AM.Try
open Go AM AM.Duty
open Nat renaming reduceLT → sA, reduceAdd → sB, reduceMul → sC, reduceSub → sD, reduceLeDiff → sE, reduceEqDiff → sF, reduceBEq → sG
open Int renaming reduceAdd → sH, reduceSub → sI, reduceMul → sJ, reduceLT → sK, reduceLE → sL, reduceNeg → sM, reduceToNat → sN, reduceEq → sO
set_option maxHeartbeats 8000000
set_option maxRecDepth 100000
def keptN (a : Acc) (l : List (List Int)) : Nat := (l.filter fun t => keepsS a.bond (debtsS a t []).1).length
def keptR (a : Acc) (l : List (List Int)) : Int := if keptN a l = l.length then 1 else if keptN a l = 0 then 2 else 3
end AM.Try
end
/- The reference: the bounds of a day. -/
section
namespace AM.Try
open Go AM AM.Duty
open Nat renaming reduceLT → sA, reduceAdd → sB, reduceMul → sC, reduceSub → sD, reduceLeDiff → sE, reduceEqDiff → sF, reduceBEq → sG
open Int renaming reduceAdd → sH, reduceSub → sI, reduceMul → sJ, reduceLT → sK, reduceLE → sL, reduceNeg → sM, reduceToNat → sN, reduceEq → sO
set_option maxHeartbeats 8000000
set_option maxRecDepth 100000
theorem debts_full {a : Acc} (t : List Int) (paid : List Int) : (debtsS a t paid).1.length = (a.last + 1).toNat := by unfold debtsS; rw [debts_len]
end AM.Try
end
/- Plain laws: the program's truths are the reference's. -/
section
namespace AM.Try
open Go AM AM.Duty
open Nat renaming reduceLT → sA, reduceAdd → sB, reduceMul → sC, reduceSub → sD, reduceLeDiff → sE, reduceEqDiff → sF, reduceBEq → sG
open Int renaming reduceAdd → sH, reduceSub → sI, reduceMul → sJ, reduceLT → sK, reduceLE → sL, reduceNeg → sM, reduceToNat → sN, reduceEq → sO
theorem mem_listsN {f : Int → List (List Int)} {x : List Int} : ∀ {c : Nat} {n : Int}, x ∈ listsN f c n ↔ ∃ k : Nat, k < c ∧ x ∈ f (n + k)
  | 0, n => by simp [listsN]
  | c + 1, n => by
    simp only [listsN, List.mem_append, mem_listsN (c := c)]
    constructor
    · rintro (h | ⟨k, h1, h2⟩)
      · exact ⟨0, by omega, by simpa using h⟩
      · exact ⟨k + 1, by omega, by rw [show n + ((k + 1 : Nat) : Int) = n + 1 + k by omega]; exact h2⟩
    · rintro ⟨k, h1, h2⟩
      cases k with
      | zero => left; simpa using h2
      | succ k => right; exact ⟨k, by omega, by rw [show n + 1 + (k : Int) = n + ((k + 1 : Nat) : Int) by omega]; exact h2⟩
theorem mem_lists : ∀ {es : List Entry} {p x : List Int}, x ∈ listsP es p ↔ ∃ y, x = p ++ y ∧ listedP es y = true
  | [], p, x => by
    simp only [listsP, List.mem_singleton]
    constructor
    · rintro rfl; exact ⟨[], by simp, rfl⟩
    · rintro ⟨y, rfl, h⟩
      cases y with
      | nil => simp
      | cons u us => cases h
  | e :: es, p, x => by
    simp only [listsP, mem_listsN, mem_lists (es := es)]
    constructor
    · rintro ⟨k, h1, y, rfl, h2⟩
      refine ⟨(e.lo + k) :: y, by simp, ?_⟩
      simp only [listedP, inB, h2, Bool.and_true, Bool.and_eq_true, decide_eq_true_eq]
      omega
    · rintro ⟨y, rfl, h⟩
      cases y with
      | nil => cases h
      | cons u us =>
        simp only [listedP, inB, Bool.and_eq_true, decide_eq_true_eq] at h
        refine ⟨(u - e.lo).toNat, by omega, us, ?_, h.2⟩
        rw [show e.lo + ((u - e.lo).toNat : Int) = u by omega]
        simp
theorem nth_listed : ∀ {es : List Entry} {n : Int}, (∀ e ∈ es, e.lo ≤ e.hi) → listedP es (nthS es n) = true
  | [], _, _ => rfl
  | e :: es, n, h => by
    have h1 := h e (by simp)
    have h3 := nth_listed (es := es) (n := n / (e.hi - e.lo + 1)) fun x hx => h x (by simp [hx])
    simp only [nthS, listedP, h3, Bool.and_true, inB, Bool.and_eq_true, decide_eq_true_eq]
    have h2 := mod_bound (m := n) (s := e.hi - e.lo + 1) (by omega)
    omega
theorem listed_nth : ∀ {es : List Entry} {y : List Int}, (∀ e ∈ es, e.lo ≤ e.hi) → listedP es y = true → ∃ n : Nat, n < many es ∧ nthS es n = y
  | [], [], _, _ => ⟨0, by simp [many], rfl⟩
  | [], _ :: _, _, h => by cases h
  | _ :: _, [], _, h => by cases h
  | e :: es, u :: us, hlo, h => by
    simp only [listedP, inB, Bool.and_eq_true, decide_eq_true_eq] at h
    obtain ⟨n, h1, h2⟩ := listed_nth (fun x hx => hlo x (by simp [hx])) h.2
    have hs : ((e.hi - e.lo + 1).toNat : Int) = e.hi - e.lo + 1 := Int.toNat_of_nonneg (by omega)
    generalize hS : (e.hi - e.lo + 1).toNat = s at hs
    have ha : (u - e.lo).toNat < s := by omega
    have hu : ((u - e.lo).toNat : Int) = u - e.lo := Int.toNat_of_nonneg (by omega)
    generalize (u - e.lo).toNat = w at ha hu
    refine ⟨w + s * n, ?_, ?_⟩
    · show _ < (e.hi - e.lo + 1).toNat * many es
      rw [hS]
      have : s * (n + 1) ≤ s * many es := Nat.mul_le_mul_left _ h1
      rw [Nat.mul_add] at this; omega
    · simp only [nthS]
      rw [← hs]
      have e1 : ((w + s * n : Nat) : Int) % (s : Int) = w := by
        rw [← Int.natCast_emod, Nat.add_mul_mod_self_left, Nat.mod_eq_of_lt ha]
      have e2 : ((w + s * n : Nat) : Int) / (s : Int) = n := by
        rw [← Int.natCast_ediv, Nat.add_mul_div_left _ _ (by omega), Nat.div_eq_of_lt ha, Nat.zero_add]
      rw [e1, e2, h2, hu, show e.lo + (u - e.lo) = u by omega]
theorem lo_le {a : Acc} (hf : faultS a = 0) : ∀ e ∈ a.entries, e.lo ≤ e.hi := fun e he => (isEntry_small (List.all_eq_true.1 (fault_zero hf).2.2.2.2.1 e he)).2.1
theorem many_T {a : Acc} (hf : faultS a = 0) : manyT a = many a.entries := by
  have h := sizes_many a.entries 1 (fun e he => by have := lo_le hf e he; omega)
  unfold manyT sizes; rw [h]; omega
theorem mem_truths {a : Acc} (hf : faultS a = 0) {x : List Int} : x ∈ truthsL a ↔ x ∈ truthsR a := by
  unfold truthsL truthsR truthsTo
  rw [List.mem_filter, List.mem_filter, (playS_ask hf x).1, mem_lists, List.mem_map]
  refine and_congr ?_ Iff.rfl
  constructor
  · rintro ⟨y, rfl, h⟩
    obtain ⟨n, h1, h2⟩ := listed_nth (lo_le hf) h
    exact ⟨n, List.mem_range.2 (by rw [many_T hf]; exact h1), by simpa [nthT] using h2⟩
  · rintro ⟨n, _, rfl⟩
    exact ⟨nthT a n, by simp, nth_listed (lo_le hf)⟩
theorem possible_eq {a : Acc} : possibleS a = !(truthsR a).isEmpty := by
  unfold truthsR truthsTo possibleS
  rw [Bool.eq_iff_iff, List.any_eq_true, Bool.not_eq_true', List.isEmpty_eq_false_iff]
  constructor
  · rintro ⟨k, h1, h2⟩ h
    have : nthT a k ∈ ((List.range (manyT a)).map (nthT a)).filter (isTruth a) := List.mem_filter.2 ⟨List.mem_map.2 ⟨k, h1, rfl⟩, h2⟩
    rw [h] at this; cases this
  · intro h
    obtain ⟨x, hx⟩ := List.exists_mem_of_ne_nil _ h
    obtain ⟨h1, h2⟩ := List.mem_filter.1 hx
    obtain ⟨k, h3, rfl⟩ := List.mem_map.1 h1
    exact ⟨k, h3, h2⟩
theorem truths_empty {a : Acc} (hf : faultS a = 0) : (truthsL a).isEmpty = (truthsR a).isEmpty := by
  rw [Bool.eq_iff_iff, List.isEmpty_iff, List.isEmpty_iff]
  constructor <;> intro h <;> refine List.eq_nil_iff_forall_not_mem.2 fun x hx => ?_
  · have := (mem_truths hf).2 hx; rw [h] at this; cases this
  · have := (mem_truths hf).1 hx; rw [h] at this; cases this
end AM.Try
end
/- Plain laws: bounds and whether the bond is kept, of the same truths. -/
section
namespace AM.Try
open Go AM AM.Duty
open Nat renaming reduceLT → sA, reduceAdd → sB, reduceMul → sC, reduceSub → sD, reduceLeDiff → sE, reduceEqDiff → sF, reduceBEq → sG
open Int renaming reduceAdd → sH, reduceSub → sI, reduceMul → sJ, reduceLT → sK, reduceLE → sL, reduceNeg → sM, reduceToNat → sN, reduceEq → sO
theorem truth_debt {a : Acc} (hf : faultS a = 0) {t : List Int} (ht : t ∈ truthsL a) : (playS a t [] true).1 = (debtsS a t []).1 := by
  have h := (List.mem_filter.1 ht).2
  have h1 := playS_ask hf t
  rw [h1.1] at h
  exact h1.2 h
end AM.Try
end
/- Plain laws: whether the bond is kept. -/
section
namespace AM.Try
open Go AM AM.Duty
open Nat renaming reduceLT → sA, reduceAdd → sB, reduceMul → sC, reduceSub → sD, reduceLeDiff → sE, reduceEqDiff → sF, reduceBEq → sG
open Int renaming reduceAdd → sH, reduceSub → sI, reduceMul → sJ, reduceLT → sK, reduceLE → sL, reduceNeg → sM, reduceToNat → sN, reduceEq → sO
theorem keep_eq {a : Acc} (hf : faultS a = 0) {t : List Int} (ht : t ∈ truthsL a) : keepsP a (pad (playS a t [] true).1) = keepsS a.bond (debtsS a t []).1 := by
  rw [truth_debt hf ht]
  unfold keepsP keepsS
  rw [pad_take2 (debts_full t [])]
theorem fold31_eq {a : Acc} (K : List Int → Bool) : ∀ (l : List (List Int)) (s : Bool × Bool), (∀ t ∈ l, keepsP a (pad (playS a t [] true).1) = K t) → fold31 a s l = (s.1 || l.any K, s.2 || l.any fun t => !K t)
  | [], s, _ => by simp [fold31]
  | t :: l, s, h => by
    show fold31 a (bst31 a s t).1 l = _
    rw [fold31_eq K l _ fun x hx => h x (by simp [hx])]
    simp only [bst31, h t (by simp), List.any_cons, Bool.or_assoc]
theorem any_mem {α : Type} {l r : List α} {p : α → Bool} (h : ∀ x, x ∈ l ↔ x ∈ r) : l.any p = r.any p := by
  rw [Bool.eq_iff_iff, List.any_eq_true, List.any_eq_true]
  constructor <;> rintro ⟨x, h1, h2⟩
  · exact ⟨x, (h x).1 h1, h2⟩
  · exact ⟨x, (h x).2 h1, h2⟩
theorem keptN_all {a : Acc} {l : List (List Int)} : keptN a l = l.length ↔ (l.any fun t => !keepsS a.bond (debtsS a t []).1) = false := by
  unfold keptN
  rw [List.length_filter_eq_length_iff, List.any_eq_false]
  simp
theorem keptN_none {a : Acc} {l : List (List Int)} : keptN a l = 0 ↔ (l.any fun t => keepsS a.bond (debtsS a t []).1) = false := by
  unfold keptN
  rw [List.length_eq_zero_iff, List.filter_eq_nil_iff, List.any_eq_false]
theorem kept_eq {a : Acc} (hf : faultS a = 0) : keptA a = if (truthsR a).isEmpty = true then .tup [i64 0, i64 9] else .tup [i64 (keptR a (truthsR a)), i64 0] := by
  unfold keptA
  rw [if_pos hf, fold31_eq (fun t => keepsS a.bond (debtsS a t []).1) _ _ fun t ht => keep_eq hf ht]
  rw [any_mem fun x => mem_truths hf, any_mem (p := fun t => !keepsS a.bond (debtsS a t []).1) fun x => mem_truths hf]
  simp only [Bool.false_or]
  unfold keptR
  simp only [keptN_all, keptN_none]
  cases hR : truthsR a with
  | nil => rfl
  | cons t l =>
    simp only [List.isEmpty_cons, Bool.false_eq_true, if_false]
    cases h1 : (t :: l).any fun t => keepsS a.bond (debtsS a t []).1 <;> cases h2 : (t :: l).any fun t => !keepsS a.bond (debtsS a t []).1
    · exfalso
      rw [List.any_eq_false] at h1 h2
      have g1 := h1 t (by simp)
      have g2 := h2 t (by simp)
      simp at g1 g2
      rw [g1] at g2; cases g2
    · rfl
    · rfl
    · rfl
end AM.Try
end
/- Plain laws: payments; the search for the fewest. -/
section
namespace AM.Try
open Go AM AM.Duty
open Nat renaming reduceLT → sA, reduceAdd → sB, reduceMul → sC, reduceSub → sD, reduceLeDiff → sE, reduceEqDiff → sF, reduceBEq → sG
open Int renaming reduceAdd → sH, reduceSub → sI, reduceMul → sJ, reduceLT → sK, reduceLE → sL, reduceNeg → sM, reduceToNat → sN, reduceEq → sO
def Best (P : List Int → Bool) (lt : List Int → List Int → Bool) : Option (List Int) → Prop
  | none => ∀ l, P l = false
  | some b => P b = true ∧ ∀ l, P l = true → lt l b = false
theorem best_unique {P : List Int → Bool} {lt : List Int → List Int → Bool} (ht : ∀ a b, lt a b = false → lt b a = false → a = b) : ∀ {r s : Option (List Int)}, Best P lt r → Best P lt s → r = s
  | none, none, _, _ => rfl
  | none, some b, h1, h2 => by have := h1 b; rw [h2.1] at this; cases this
  | some b, none, h1, h2 => by have := h2 b; rw [h1.1] at this; cases this
  | some b, some c, h1, h2 => by rw [ht b c (h2.2 b h1.1) (h1.2 c h2.1)]
theorem same_of_before {a b : List Int} (hl : a.length = b.length) (h1 : beforeS a b = false) (h2 : beforeS b a = false) : a = b := by
  have := before_same a b hl
  rw [h1, h2] at this
  simpa using this
theorem before_trans : ∀ {a b c : List Int}, beforeS a b = true → beforeS b c = true → beforeS a c = true
  | [], [], c, h, _ => by cases h
  | [], _ :: _, [], _, h => by cases h
  | [], _ :: _, _ :: _, _, _ => rfl
  | _ :: _, [], c, h, _ => by cases h
  | _ :: _, _ :: _, [], _, h => by cases h
  | x :: a, y :: b, z :: c, h1, h2 => by
    simp only [beforeS] at h1 h2 ⊢
    split at h1
    · rename_i e; subst e
      split at h2
      · rename_i e; rw [if_pos e]; exact before_trans h1 h2
      · rename_i e; rw [if_neg e]; exact h2
    · rename_i e
      have h1 := of_decide_eq_true h1
      split at h2
      · rename_i e2; subst e2; rw [if_neg e]; exact decide_eq_true h1
      · have h2 := of_decide_eq_true h2
        rw [if_neg (by omega)]; exact decide_eq_true (by omega)
theorem shorter_iff {a b : List Int} : shorterS a b = true ↔ a.length < b.length ∨ (a.length = b.length ∧ beforeS a b = true) := by simp [shorterS]
theorem shorter_total (a b : List Int) (h1 : shorterS a b = false) (h2 : shorterS b a = false) : a = b := by
  have g1 : ¬ shorterS a b = true := by simp [h1]
  have g2 : ¬ shorterS b a = true := by simp [h2]
  rw [shorter_iff] at g1 g2
  have hl : a.length = b.length := by omega
  refine same_of_before hl ?_ ?_
  · cases h : beforeS a b
    · rfl
    · exact absurd (.inr ⟨hl, h⟩) g1
  · cases h : beforeS b a
    · rfl
    · exact absurd (.inr ⟨hl.symm, h⟩) g2
theorem shorter_trans {a b c : List Int} (h1 : shorterS a b = true) (h2 : shorterS b c = true) : shorterS a c = true := by
  rw [shorter_iff] at *
  rcases h1 with h1 | ⟨h1, g1⟩ <;> rcases h2 with h2 | ⟨h2, g2⟩
  · left; omega
  · left; omega
  · left; omega
  · exact .inr ⟨by omega, before_trans g1 g2⟩
def bestStep (H : List Int → Bool) (lt : List Int → List Int → Bool) (b : Option (List Int)) (l : List Int) : Option (List Int) :=
  match b with
  | none => if H l = true then some l else none
  | some c => if lt l c = true ∧ H l = true then some l else some c
theorem best_fold {H : List Int → Bool} {lt : List Int → List Int → Bool} (htr : ∀ a b c, lt a b = true → lt b c = true → lt a c = true) (hir : ∀ a, lt a a = false) :
    ∀ (ls rs : List (List Int)) (b : Option (List Int)), Best (fun l => decide (l ∈ rs) && H l) lt b → Best (fun l => decide (l ∈ rs ++ ls) && H l) lt (ls.foldl (bestStep H lt) b)
  | [], rs, b, h => by simpa using h
  | x :: ls, rs, b, h => by
    have h2 := best_fold (H := H) (lt := lt) htr hir ls (rs ++ [x]) (bestStep H lt b x) (by
      cases b with
      | none =>
        have h : ∀ l, (decide (l ∈ rs) && H l) = false := h
        unfold bestStep; dsimp only
        split
        · rename_i hx
          refine ⟨by simp [hx], fun l hl => ?_⟩
          simp only [Bool.and_eq_true, decide_eq_true_eq, List.mem_append, List.mem_singleton] at hl
          obtain ⟨hl | hl, h3⟩ := hl
          · have := h l; simp [hl, h3] at this
          · subst hl; exact hir _
        · rename_i hx
          intro l
          cases hm : (decide (l ∈ rs ++ [x]) && H l) with
          | false => exact hm
          | true =>
            simp only [Bool.and_eq_true, decide_eq_true_eq, List.mem_append, List.mem_singleton] at hm
            obtain ⟨hl | hl, h3⟩ := hm
            · have := h l; simp [hl, h3] at this
            · subst hl; exact absurd h3 hx
      | some c =>
        obtain ⟨h1, h2⟩ : (decide (c ∈ rs) && H c) = true ∧ ∀ l, (decide (l ∈ rs) && H l) = true → lt l c = false := h
        simp only [Bool.and_eq_true, decide_eq_true_eq] at h1
        unfold bestStep; dsimp only
        split
        · rename_i hx
          refine ⟨by simp [hx.2], fun l hl => ?_⟩
          simp only [Bool.and_eq_true, decide_eq_true_eq, List.mem_append, List.mem_singleton] at hl
          obtain ⟨hl | hl, h3⟩ := hl
          · have h4 := h2 l (by simp [hl, h3])
            cases h5 : lt l x with
            | false => rfl
            | true => rw [htr _ _ _ h5 hx.1] at h4; cases h4
          · subst hl; exact hir _
        · rename_i hx
          refine ⟨by simp [h1], fun l hl => ?_⟩
          simp only [Bool.and_eq_true, decide_eq_true_eq, List.mem_append, List.mem_singleton] at hl
          obtain ⟨hl | hl, h3⟩ := hl
          · exact h2 l (by simp [hl, h3])
          · subst hl
            cases h5 : lt l c with
            | false => rfl
            | true => exact absurd ⟨h5, h3⟩ hx)
    rw [List.append_assoc] at h2
    exact h2
theorem best_of {P Q : List Int → Bool} {lt : List Int → List Int → Bool} (h : ∀ l, P l = Q l) {b : Option (List Int)} (hb : Best P lt b) : Best Q lt b := by
  have : P = Q := funext h
  rw [← this]; exact hb
theorem plan_len {last : Int} : ∀ {l : List Int} {p : Int}, p ≤ last → planS last p l = true → p + l.length ≤ last
  | [], p, h, _ => by simpa using h
  | n :: r, p, h, hp => by
    simp only [planS, Bool.and_eq_true, decide_eq_true_eq] at hp
    have := plan_len hp.2.1 hp.2.2
    simp only [List.length_cons]; omega
theorem upF_find {α : Type} {f : Nat → Option α} {x : α} : ∀ {c n : Nat}, upF f c n = some x → ∃ i, n ≤ i ∧ i < n + c ∧ f i = some x ∧ ∀ j, n ≤ j → j < i → f j = none
  | 0, n, h => by cases h
  | c + 1, n, h => by
    simp only [upF] at h
    split at h
    · rename_i y hn
      cases h
      exact ⟨n, by omega, by omega, hn, fun j h1 h2 => by omega⟩
    · rename_i hn
      obtain ⟨i, h1, h2, h3, h4⟩ := upF_find h
      refine ⟨i, by omega, by omega, h3, fun j h5 h6 => ?_⟩
      by_cases e : j = n
      · subst e; exact hn
      · exact h4 j (by omega) h6
end AM.Try
end
/- Plain laws: the search for the smallest set; bits. -/
section
namespace AM.Try
open Go AM AM.Duty
open Nat renaming reduceLT → sA, reduceAdd → sB, reduceMul → sC, reduceSub → sD, reduceLeDiff → sE, reduceEqDiff → sF, reduceBEq → sG
open Int renaming reduceAdd → sH, reduceSub → sI, reduceMul → sJ, reduceLT → sK, reduceLE → sL, reduceNeg → sM, reduceToNat → sN, reduceEq → sO
theorem upI_none {α : Type} {f : Int → Option α} : ∀ {c : Nat} {n : Int}, upI f c n = none → ∀ k : Nat, k < c → f (n + k) = none
  | 0, n, _, k, h => by omega
  | c + 1, n, h, k, hk => by
    simp only [upI] at h
    split at h
    · cases h
    · rename_i hn
      cases k with
      | zero => simpa using hn
      | succ k => rw [show n + ((k + 1 : Nat) : Int) = n + 1 + k by omega]; exact upI_none h k (by omega)
theorem upI_find {α : Type} {f : Int → Option α} {x : α} : ∀ {c : Nat} {n : Int}, upI f c n = some x → ∃ k : Nat, k < c ∧ f (n + k) = some x ∧ ∀ j : Nat, j < k → f (n + j) = none
  | 0, n, h => by cases h
  | c + 1, n, h => by
    simp only [upI] at h
    split at h
    · rename_i y hn
      cases h
      exact ⟨0, by omega, by simpa using hn, fun j hj => by omega⟩
    · rename_i hn
      obtain ⟨k, h1, h2, h3⟩ := upI_find h
      refine ⟨k + 1, by omega, by rw [show n + ((k + 1 : Nat) : Int) = n + 1 + k by omega]; exact h2, fun j hj => ?_⟩
      cases j with
      | zero => simpa using hn
      | succ j => rw [show n + ((j + 1 : Nat) : Int) = n + 1 + j by omega]; exact h3 j (by omega)
theorem leaveF_spec {H : List Int → Bool} {len : Int} : ∀ (m : Nat) (out : List Int) (fr : Int),
    (leaveF H len m out fr = none → ∀ l, l.length = m → planS (len - 1) (fr - 1) l = true → H (out ++ l) = false) ∧
    (∀ ds, leaveF H len m out fr = some ds → ∃ l, ds = out ++ l ∧ l.length = m ∧ planS (len - 1) (fr - 1) l = true ∧ H ds = true ∧ ∀ l', l'.length = m → planS (len - 1) (fr - 1) l' = true → H (out ++ l') = true → beforeS l' l = false)
  | 0, out, fr => by
    simp only [leaveF]
    refine ⟨fun h l hl hp0 => ?_, fun ds h => ?_⟩
    · have : l = [] := List.length_eq_zero_iff.1 hl
      subst this
      by_cases hH : H out = true
      · rw [if_pos hH] at h; cases h
      · simpa using hH
    · split at h
      · rename_i hH; cases h
        exact ⟨[], by simp, rfl, rfl, hH, fun l' hl' _ _ => by rw [List.length_eq_zero_iff.1 hl']; rfl⟩
      · cases h
  | m + 1, out, fr => by
    simp only [leaveF]
    have key : ∀ n r, r.length = m → planS (len - 1) (fr - 1) (n :: r) = true → ∃ k : Nat, k < (len - (m + 1) - fr + 1).toNat ∧ fr + (k : Int) = n ∧ planS (len - 1) (n + 1 - 1) r = true := fun n r hr hp => by
      simp only [planS, Bool.and_eq_true, decide_eq_true_eq] at hp
      have := plan_len hp.2.1 hp.2.2
      exact ⟨(n - fr).toNat, by omega, by omega, by rw [show n + 1 - 1 = n by omega]; exact hp.2.2⟩
    refine ⟨fun h l hl hp => ?_, fun ds h => ?_⟩
    · cases l with
      | nil => cases hl
      | cons n r =>
        have hr : r.length = m := by simpa using hl
        obtain ⟨k, hk, e, hp2⟩ := key n r hr hp
        have h1 := upI_none h k hk
        rw [e] at h1
        have := (leaveF_spec m (out ++ [n]) (n + 1)).1 h1 r hr hp2
        simpa using this
    · obtain ⟨k, hk, h1, h2⟩ := upI_find h
      obtain ⟨r, e, hr, hp, hH, hb⟩ := (leaveF_spec m _ _).2 ds h1
      refine ⟨(fr + (k : Int)) :: r, by simp [e], by simp [hr], ?_, hH, fun l' hl' hp' hH' => ?_⟩
      · rw [show fr + (k : Int) + 1 - 1 = fr + k by omega] at hp
        simp only [planS, hp, Bool.and_true, Bool.and_eq_true, decide_eq_true_eq]; omega
      · cases l' with
        | nil => cases hl'
        | cons n' r' =>
          have hr' : r'.length = m := by simpa using hl'
          obtain ⟨k', hk', e', hp2⟩ := key n' r' hr' hp'
          by_cases hlt : k' < k
          · have h3 := h2 k' hlt
            rw [e'] at h3
            have := (leaveF_spec m (out ++ [n']) (n' + 1)).1 h3 r' hr' hp2
            rw [show out ++ n' :: r' = out ++ [n'] ++ r' by simp] at hH'
            rw [this] at hH'; cases hH'
          · by_cases heq : k' = k
            · subst heq
              rw [e'] at hb ⊢
              simp only [beforeS, if_true]
              refine hb r' hr' hp2 ?_
              rw [List.append_assoc]; exact hH'
            · simp only [beforeS]
              rw [if_neg (by omega)]
              exact decide_eq_false (by omega)
theorem leave_best {H : List Int → Bool} {len : Nat} : Best (fun l => planS ((len : Int) - 1) (-1) l && H l) shorterS (upF (fun m => leaveF H len m [] 0) (len + 1) 0) := by
  cases hu : upF (fun m => leaveF H len m [] 0) (len + 1) 0 with
  | none =>
    intro l
    cases hp : planS ((len : Int) - 1) (-1) l with
    | false => simp [hp]
    | true =>
      have hl := plan_len (show (-1 : Int) ≤ (len : Int) - 1 by omega) hp
      have h1 := upF_none hu l.length (by omega) (by omega)
      have := (leaveF_spec l.length [] 0).1 h1 l rfl hp
      simpa [hp] using this
  | some b =>
    obtain ⟨i, _, h2, h3, h4⟩ := upF_find hu
    obtain ⟨l, e, hl, hp, hH, hb⟩ := (leaveF_spec i [] 0).2 b h3
    rw [List.nil_append] at e
    subst e
    have hp : planS ((len : Int) - 1) (-1) b = true := hp
    refine ⟨by simp [hp, hH], fun l' hl' => ?_⟩
    simp only [Bool.and_eq_true] at hl'
    cases hs : shorterS l' b with
    | false => rfl
    | true =>
      rw [shorter_iff] at hs
      rcases hs with hs | ⟨hs, g⟩
      · have h1 := h4 l'.length (by omega) (by omega)
        have := (leaveF_spec l'.length [] 0).1 h1 l' rfl hl'.1
        rw [List.nil_append, hl'.2] at this; cases this
      · have := hb l' (by omega) hl'.1 (by simpa using hl'.2)
        rw [g] at this; cases this
def bitsF : Nat → Nat → Nat → List Int
  | 0, _, _ => []
  | c + 1, p, n => if n % 2 = 1 then (p : Int) :: bitsF c (p + 1) (n / 2) else bitsF c (p + 1) (n / 2)
def bitsS (n : Nat) : List Int := bitsF 16 0 n
theorem bitsF_zero : ∀ c p, bitsF c p 0 = []
  | 0, _ => rfl
  | c + 1, p => by simp only [bitsF]; rw [if_neg (by decide)]; exact bitsF_zero c (p + 1)
theorem plan_low {last : Int} : ∀ {l : List Int} {p q : Int}, q ≤ p → planS last p l = true → planS last q l = true
  | [], _, _, _, _ => rfl
  | n :: r, p, q, h, hp => by
    simp only [planS, Bool.and_eq_true, decide_eq_true_eq] at hp ⊢
    exact ⟨by omega, hp.2⟩
theorem bitsF_plan : ∀ {c p k n : Nat}, n < 2 ^ k → planS ((p : Int) + k - 1) ((p : Int) - 1) (bitsF c p n) = true
  | 0, _, _, _, _ => rfl
  | c + 1, p, 0, n, h => by
    have : n = 0 := by simpa using h
    subst this; rw [bitsF_zero]; rfl
  | c + 1, p, k + 1, n, h => by
    have h1 : n / 2 < 2 ^ k := by rw [Nat.pow_succ] at h; omega
    have ih := bitsF_plan (c := c) (p := p + 1) h1
    rw [show ((p + 1 : Nat) : Int) + k - 1 = (p : Int) + (k + 1 : Nat) - 1 by omega, show ((p + 1 : Nat) : Int) - 1 = p by omega] at ih
    simp only [bitsF]
    split
    · simp only [planS, ih, Bool.and_true, Bool.and_eq_true, decide_eq_true_eq]; omega
    · exact plan_low (by omega) ih
theorem bitsF_find : ∀ {k c p : Nat} {l : List Int}, k ≤ c → planS ((p : Int) + k - 1) ((p : Int) - 1) l = true → ∃ n, n < 2 ^ k ∧ bitsF c p n = l
  | k, c, p, [], _, _ => ⟨0, Nat.pow_pos (by decide), bitsF_zero c p⟩
  | 0, c, p, x :: r, _, h => by simp only [planS, Bool.and_eq_true, decide_eq_true_eq] at h; omega
  | k + 1, 0, p, x :: r, hc, _ => by omega
  | k + 1, c + 1, p, x :: r, hc, h => by
    have e1 : (p : Int) + (k + 1 : Nat) - 1 = ((p + 1 : Nat) : Int) + k - 1 := by omega
    have e2 : ((p + 1 : Nat) : Int) - 1 = p := by omega
    have h0 := h
    simp only [planS, Bool.and_eq_true, decide_eq_true_eq] at h0
    by_cases hx : x = p
    · obtain ⟨n, hn, hb⟩ := bitsF_find (k := k) (c := c) (p := p + 1) (l := r) (by omega) (by rw [← e1, e2]; rw [hx] at h0; exact h0.2.2)
      refine ⟨2 * n + 1, by rw [Nat.pow_succ]; omega, ?_⟩
      simp only [bitsF]
      rw [if_pos (by omega), show (2 * n + 1) / 2 = n by omega, hb, hx]
    · obtain ⟨n, hn, hb⟩ := bitsF_find (k := k) (c := c) (p := p + 1) (l := x :: r) (by omega) (by
        rw [← e1, e2]
        simp only [planS, h0.2.2, Bool.and_true, Bool.and_eq_true, decide_eq_true_eq]; omega)
      refine ⟨2 * n, by rw [Nat.pow_succ]; omega, ?_⟩
      simp only [bitsF]
      rw [if_neg (by omega), show 2 * n / 2 = n by omega, hb]
theorem bits_mem {k : Nat} {l : List Int} (hk : k ≤ 16) : l ∈ (List.range (2 ^ k)).map bitsS ↔ planS ((k : Int) - 1) (-1) l = true := by
  rw [List.mem_map]
  have e1 : ((0 : Nat) : Int) + k - 1 = (k : Int) - 1 := by omega
  constructor
  · rintro ⟨n, hn, rfl⟩
    have := bitsF_plan (c := 16) (p := 0) (List.mem_range.1 hn)
    rw [e1] at this; exact this
  · intro h
    obtain ⟨n, hn, hb⟩ := bitsF_find (c := 16) (p := 0) (l := l) hk (by rw [e1]; exact h)
    exact ⟨n, List.mem_range.2 hn, hb⟩
theorem bitsF_len : ∀ c p n, (bitsF c p n).length ≤ c
  | 0, _, _ => by simp [bitsF]
  | c + 1, p, n => by
    have := bitsF_len c (p + 1) (n / 2)
    simp only [bitsF]; split
    · simp; omega
    · omega
theorem bits_len (n : Nat) : (bitsS n).length ≤ 16 := bitsF_len _ _ _
theorem before_irr : ∀ a : List Int, beforeS a a = false
  | [] => rfl
  | x :: a => by simp only [beforeS, if_true]; exact before_irr a
theorem shorter_irr (a : List Int) : shorterS a a = false := by simp [shorterS, before_irr]
def woR : Nat → List Entry → List Entry
  | _, [] => []
  | n, e :: es => if n % 2 = 0 then e :: woR (n / 2) es else woR (n / 2) es
def withoutR (a : Acc) (n : Nat) : Acc := { a with entries := woR n a.entries }
theorem woF_congr {o o' : List Int} : ∀ {es : List Entry} {j : Nat}, (∀ i : Nat, j ≤ i → ((i : Int) ∈ o ↔ (i : Int) ∈ o')) → woF o j es = woF o' j es
  | [], j, _ => rfl
  | e :: es, j, h => by
    simp only [woF]
    have h1 := h j (Nat.le_refl _)
    have h2 := woF_congr (es := es) (j := j + 1) fun i hi => h i (by omega)
    by_cases hm : (j : Int) ∈ o
    · rw [if_pos hm, if_pos (h1.1 hm), h2]
    · rw [if_neg hm, if_neg (fun x => hm (h1.2 x)), h2]
theorem bitsF_low : ∀ {c p n : Nat} {x : Int}, x ∈ bitsF c p n → (p : Int) ≤ x
  | 0, _, _, _, h => by cases h
  | c + 1, p, n, x, h => by
    simp only [bitsF] at h
    split at h
    · rcases List.mem_cons.1 h with rfl | h
      · omega
      · have := bitsF_low h; omega
    · have := bitsF_low h; omega
theorem wo_bits : ∀ {es : List Entry} {c p n : Nat}, es.length ≤ c → woF (bitsF c p n) p es = woR n es
  | [], _, _, _, _ => rfl
  | e :: es, 0, p, n, h => by simp at h
  | e :: es, c + 1, p, n, h => by
    have ih := wo_bits (es := es) (c := c) (p := p + 1) (n := n / 2) (by simpa using h)
    simp only [woF, woR]
    by_cases hn : n % 2 = 1
    · have hb : bitsF (c + 1) p n = (p : Int) :: bitsF c (p + 1) (n / 2) := by simp only [bitsF]; rw [if_pos hn]
      rw [hb, if_pos (by simp), if_neg (by omega), ← ih]
      refine woF_congr fun i hi => ?_
      rw [List.mem_cons]
      exact ⟨fun h => h.resolve_left (by omega), .inr⟩
    · have hb : bitsF (c + 1) p n = bitsF c (p + 1) (n / 2) := by simp only [bitsF]; rw [if_neg hn]
      have hnm : ¬ (p : Int) ∈ bitsF c (p + 1) (n / 2) := fun h => by have := bitsF_low h; omega
      rw [hb, if_neg hnm, if_pos (by omega), ← ih]
theorem without_eq {a : Acc} (hl : a.entries.length ≤ 16) (n : Nat) : withoutP a (bitsS n) = withoutR a n := by
  unfold withoutP withoutR bitsS
  rw [wo_bits hl]
theorem wo_all : ∀ (es : List Entry), woR (2 ^ es.length - 1) es = []
  | [] => rfl
  | e :: es => by
    have h1 : 2 ^ (es.length + 1) = 2 * 2 ^ es.length := by rw [Nat.pow_succ, Nat.mul_comm]
    have h2 : 0 < 2 ^ es.length := Nat.pow_pos (by decide)
    simp only [woR, List.length_cons, h1]
    rw [if_neg (by omega), show (2 * 2 ^ es.length - 1) / 2 = 2 ^ es.length - 1 by omega]
    exact wo_all es
def leaves1 (a : Acc) (out : List Int) : Bool := possibleS (withoutP a out)
theorem leaves_eq {a : Acc} (hf : faultS a = 0) (out : List Int) : goodL a out = leaves1 a out := by
  unfold goodL leaves1
  rw [possible_eq, truths_empty (fault_wo hf out)]
theorem leaves_all {a : Acc} (hf : faultS a = 0) : leaves1 a (bitsS (2 ^ a.entries.length - 1)) = true := by
  rw [← leaves_eq hf]
  have hl : a.entries.length ≤ 8 := (fault_zero hf).2.1
  have h : (withoutP a (bitsS (2 ^ a.entries.length - 1))).entries = [] := by
    rw [without_eq (by omega)]; exact wo_all _
  unfold goodL truthsL
  rw [h]
  have h2 : (playS (withoutP a (bitsS (2 ^ a.entries.length - 1))) [] [] true).2 = true := play_none h _ _ _
  simp only [listsP, List.filter_cons, h2, if_true, List.filter_nil, List.isEmpty_cons, Bool.not_false]
def leaveTo (a : Acc) (k : Nat) : Option (List Int) := ((List.range k).map bitsS).foldl (bestStep (leaves1 a) shorterS) (some (bitsS (2 ^ a.entries.length - 1)))
theorem leaveTo_succ (a : Acc) (k : Nat) : leaveTo a (k + 1) = bestStep (leaves1 a) shorterS (leaveTo a k) (bitsS k) := by
  simp only [leaveTo, List.range_succ, List.map_append, List.foldl_append, List.map_cons, List.map_nil, List.foldl_cons, List.foldl_nil]
def leaveR (a : Acc) : Option (List Int) := leaveTo a (2 ^ a.entries.length)
theorem leaveL_best {a : Acc} (hf : faultS a = 0) : Best (fun l => planS ((a.entries.length : Int) - 1) (-1) l && leaves1 a l) shorterS (leaveL a) := by
  have h := leave_best (H := goodL a) (len := a.entries.length)
  exact best_of (fun l => by rw [leaves_eq hf]) h
theorem leave_eq {a : Acc} (hf : faultS a = 0) : leaveL a = leaveR a := by
  refine best_unique shorter_total (leaveL_best hf) ?_
  have hl : a.entries.length ≤ 8 := (fault_zero hf).2.1
  have h := best_fold (H := leaves1 a) (lt := shorterS) (fun _ _ _ => shorter_trans) shorter_irr ((List.range (2 ^ a.entries.length)).map bitsS) [bitsS (2 ^ a.entries.length - 1)] (some (bitsS (2 ^ a.entries.length - 1))) ⟨by simp [leaves_all hf], fun l hl => by
    simp only [Bool.and_eq_true, decide_eq_true_eq, List.mem_singleton] at hl
    rw [hl.1]; exact shorter_irr _⟩
  refine best_of (fun l => ?_) h
  have hm := bits_mem (k := a.entries.length) (l := l) (by omega)
  congr 1
  rw [Bool.eq_iff_iff, decide_eq_true_iff, ← hm, List.mem_append, List.mem_singleton]
  constructor
  · rintro (rfl | h)
    · exact List.mem_map.2 ⟨_, List.mem_range.2 (by have : 0 < 2 ^ a.entries.length := Nat.pow_pos (by decide); omega), rfl⟩
    · exact h
  · exact .inr
end AM.Try
end
/- The reference: bits. -/
section
namespace AM.Try
open Go AM AM.Duty
open Nat renaming reduceLT → sA, reduceAdd → sB, reduceMul → sC, reduceSub → sD, reduceLeDiff → sE, reduceEqDiff → sF, reduceBEq → sG
open Int renaming reduceAdd → sH, reduceSub → sI, reduceMul → sJ, reduceLT → sK, reduceLE → sL, reduceNeg → sM, reduceToNat → sN, reduceEq → sO
set_option maxHeartbeats 8000000
set_option maxRecDepth 100000
theorem wrapU {x : Int} (h1 : 0 ≤ x) (h2 : x < 9223372036854775808) : IntKind.wrap .u64 x = x := by
  simp only [IntKind.wrap, IntKind.signed, IntKind.bits]
  simp; omega
theorem shrN {n p : Nat} (h : p ≤ 16) : ((n : Int).fdiv (2 ^ (min p IntKind.i64.bits)) : Int) = ((n / 2 ^ p : Nat) : Int) := by
  have e : (2 : Int) ^ p = ((2 ^ p : Nat) : Int) := by rw [Int.natCast_pow]; rfl
  rw [Nat.min_eq_left (by simp only [IntKind.bits]; omega), e, Int.fdiv_eq_ediv_of_nonneg _ (Int.natCast_nonneg _), Int.natCast_ediv]
def bitsN (n p : Nat) (acc : List Int) : List Int := if n / 2 ^ p % 2 = 1 then acc ++ [(p : Int)] else acc
theorem bitsN_next {n p : Nat} {acc : List Int} {R : List Int} (hp : p < 16) (hal : acc.length ≤ p) (hr : acc ++ bitsF (16 - p) p (n / 2 ^ p) = R) : p ≤ 15 ∧ (bitsN n p acc).length ≤ p + 1 ∧ bitsN n p acc ++ bitsF (16 - (p + 1)) (p + 1) (n / 2 ^ (p + 1)) = R := by
  rw [show 16 - p = (16 - (p + 1)) + 1 by omega] at hr
  simp only [bitsF] at hr
  rw [Nat.pow_succ, ← Nat.div_div_eq_div_mul]
  unfold bitsN
  split
  · rename_i h; rw [if_pos h] at hr; exact ⟨by omega, by simp; omega, by rw [← hr]; simp⟩
  · rename_i h; rw [if_neg h] at hr; exact ⟨by omega, by omega, hr⟩
theorem bits_pos {n p : Nat} (hn : n < 65536) (hp : p ≤ 16) (h : (0 : Int) < ((n / 2 ^ p : Nat) : Int)) : p < 16 := by
  have h1 : 0 < n / 2 ^ p := by generalize n / 2 ^ p = m at h ⊢; omega
  have h2 : n < 2 ^ 16 := hn
  have : p ≠ 16 := fun e => by subst e; rw [Nat.div_eq_of_lt h2] at h1; omega
  omega
theorem bits_end {n p : Nat} {acc : List Int} (h : ¬ (0 : Int) < ((n / 2 ^ p : Nat) : Int)) (hr : acc ++ bitsF (16 - p) p (n / 2 ^ p) = bitsS n) : acc = bitsS n := by
  have h1 : n / 2 ^ p = 0 := by generalize n / 2 ^ p = m at h; omega
  rw [h1, bitsF_zero, List.append_nil] at hr; exact hr
theorem c55 (n : Nat) (hn : n < 65536) : PCall Go.Proofs.Try.prog 55 [i64 n] (isl (bitsS n)) := by
  refine pcall_mk (v := []) (q := []) (N := 23) (rs := [.tmp 2]) Go.Proofs.Try.func55 rfl rfl rfl rfl rfl ?_
  refine awp_seq_k fun K1 hK1 => ?_
  refine awp_ops ?_
  simp (disch := omega) only [amL, sA]
  refine hK1 _ ?_
  refine awp_seq_k fun K2 hK2 => ?_
  refine awp_ops ?_
  simp (disch := omega) only [amL, sA]
  refine hK2 _ ?_
  refine awp_seq_k fun K3 hK3 => ?_
  refine awp_seq_k fun K4 hK4 => ?_
  refine awp_ops ?_
  simp (disch := omega) only [amL, sA]
  refine hK4 _ ?_
  refine awp_block ?_
  refine awp_adopt' 21 1 3 (by decide) rfl rfl ?_
  refine awp_loop_k (α := Nat × List Int) (fun x => ⟨T [(0, i64 n), (3, .own 21 x.2.length), (4, i64 (x.1 : Int))], O [(21, .arr 1 (x.2.map encI))]⟩) (fun x => 16 - x.1) (fun x => x.1 ≤ 16 ∧ x.2.length ≤ x.1 ∧ x.2 ++ bitsF (16 - x.1) x.1 (n / 2 ^ x.1) = bitsS n) (0, []) ?_ ?_ (fun x hx5 K5 hK5 => ?_)
  · simp [bitsS]
  · refine le_mk ?_ ?_ ?_ ?_ <;> (try simp (disch := omega) only [amL, sF, ↓reduceIte, reduceCtorEq]); all_goals rfl
  obtain ⟨p, acc⟩ := x; obtain ⟨hp, hal, hr⟩ := hx5; dsimp only at hp hal hr ⊢
  refine awp_seq_k fun K6 hK6 => ?_
  refine awp_seq_k fun K7 hK7 => ?_
  refine awp_ops ?_
  simp (disch := omega) only [wrapU, shrN, amL, amT, sA, sF, ↓reduceIte, reduceCtorEq]
  refine hK7 _ ?_
  refine awp_cond rfl (fun h => ?_) (fun h => ?_)
  ·first
   | exact Bool.noConfusion h
   |skip
    try simp only [decide_eq_true_eq] at h
    refine awp_skip ?_
    refine hK6 _ ?_
    refine awp_seq_k fun K8 hK8 => ?_
    refine awp_block ?_
    refine awp_seq_k fun K9 hK9 => ?_
    refine awp_ops ?_
    have hp16 := bits_pos hn hp (by assumption)
    simp (disch := omega) only [wrapU, shrN, amL, amT, sA, sF, sO, ↓reduceIte, reduceCtorEq]
    refine hK9 _ ?_
    refine awp_cond rfl (fun h => ?_) (fun h => ?_)
    ·first
     | exact Bool.noConfusion h
     |skip
      try simp only [decide_eq_true_eq] at h
      refine awp_ops ?_
      simp (disch := omega) only [amL, amT, sA, sE, sF, ↓reduceIte, reduceCtorEq]
      refine hK8 _ ?_
      refine awp_ops ?_
      simp (disch := omega) only [amL, amT, sA, sF, ↓reduceIte, reduceCtorEq]
      refine hK5 (p+1, bitsN n p acc) _ ?_ ?_ (le_mk ?_ ?_ ?_ ?_)
      all_goals (try simp (disch := omega) only [amL, sE, sF, ↓reduceIte, reduceCtorEq])
      all_goals first | omega | exact bitsN_next hp16 hal hr | (rw [bitsN, if_pos (by omega)]; simp; done) | (rw [bitsN, if_neg (by omega)]; done) | (omega)
    ·first
     | exact Bool.noConfusion h
     |skip
      try simp only [decide_eq_false_iff_not] at h
      refine awp_skip ?_
      refine hK8 _ ?_
      refine awp_ops ?_
      simp (disch := omega) only [amL, amT, sA, sF, ↓reduceIte, reduceCtorEq]
      refine hK5 (p+1, bitsN n p acc) _ ?_ ?_ (le_mk ?_ ?_ ?_ ?_)
      all_goals (try simp (disch := omega) only [amL, sE, sF, ↓reduceIte, reduceCtorEq])
      all_goals first | omega | exact bitsN_next hp16 hal hr | (rw [bitsN, if_pos (by omega)]; simp; done) | (rw [bitsN, if_neg (by omega)]; done) | (omega)
  ·first
   | exact Bool.noConfusion h
   |skip
    try simp only [decide_eq_false_iff_not] at h
    refine awp_exit ?_
    refine hK3 _ ?_
    refine awp_seq_k fun K10 hK10 => ?_
    refine awp_ops ?_
    simp (disch := omega) only [amL, sA, sF, ↓reduceIte, reduceCtorEq]
    refine hK10 _ ?_
    refine awp_ret ?_
    try simp (disch := omega) only [amL, ↓reduceIte]
    have e := bits_end h hr
    subst e
    rw [List.take_of_length_le (by simp)]
end AM.Try
end
/- The law of bounds. -/
section
namespace AM.Try
open Go AM AM.Duty
open Nat renaming reduceLT → sA, reduceAdd → sB, reduceMul → sC, reduceSub → sD, reduceLeDiff → sE, reduceEqDiff → sF, reduceBEq → sG
open Int renaming reduceAdd → sH, reduceSub → sI, reduceMul → sJ, reduceLT → sK, reduceLE → sL, reduceNeg → sM, reduceToNat → sN, reduceEq → sO
set_option maxHeartbeats 8000000
set_option maxRecDepth 100000
theorem kA4 (a : Acc) : keptA a = if faultS a = 0 then if (truthsR a).isEmpty = true then .tup [i64 0, i64 9] else .tup [i64 (keptR a (truthsR a)), i64 0] else .tup [i64 0, i64 (faultS a)] := by
  by_cases hf : faultS a = 0
  · rw [kept_eq hf, if_pos hf]
  · unfold keptA; rw [if_neg hf, if_neg hf]
end AM.Try
end
/- The reference: the fewest payments. -/
section
namespace AM.Try
open Go AM AM.Duty
open Nat renaming reduceLT → sA, reduceAdd → sB, reduceMul → sC, reduceSub → sD, reduceLeDiff → sE, reduceEqDiff → sF, reduceBEq → sG
open Int renaming reduceAdd → sH, reduceSub → sI, reduceMul → sJ, reduceLT → sK, reduceLE → sL, reduceNeg → sM, reduceToNat → sN, reduceEq → sO
set_option maxHeartbeats 8000000
set_option maxRecDepth 100000
theorem shl1 {n : Nat} (h : n ≤ 16) : ((1 : Int) * 2 ^ (min n IntKind.i64.bits) : Int) = ((2 ^ n : Nat) : Int) := by
  have e : (2 : Int) ^ n = ((2 ^ n : Nat) : Int) := by rw [Int.natCast_pow]; rfl
  rw [Nat.min_eq_left (by simp only [IntKind.bits]; omega), e, Int.one_mul]
theorem pow_le {n : Nat} (h : n ≤ 16) : 2 ^ n ≤ 65536 := Nat.pow_le_pow_right (n := 2) (by decide) h
end AM.Try
end
/- The law of payments. -/
section
namespace AM.Try
open Go AM AM.Duty
open Nat renaming reduceLT → sA, reduceAdd → sB, reduceMul → sC, reduceSub → sD, reduceLeDiff → sE, reduceEqDiff → sF, reduceBEq → sG
open Int renaming reduceAdd → sH, reduceSub → sI, reduceMul → sJ, reduceLT → sK, reduceLE → sL, reduceNeg → sM, reduceToNat → sN, reduceEq → sO
set_option maxHeartbeats 8000000
set_option maxRecDepth 100000
def dsV (ds : List Int) : PV := if ds.isEmpty then .val (.slice none 0 0) else .sl (ds.map encI)
theorem dsV_p (ds : List Int) : (if ds.isEmpty = true then .p (.val (.slice none 0 0)) else isl ds) = AV.p (dsV ds) := by cases ds <;> rfl
end AM.Try
end
/- The reference: without some entries; the smallest set. -/
section
namespace AM.Try
open Go AM AM.Duty
open Nat renaming reduceLT → sA, reduceAdd → sB, reduceMul → sC, reduceSub → sD, reduceLeDiff → sE, reduceEqDiff → sF, reduceBEq → sG
open Int renaming reduceAdd → sH, reduceSub → sI, reduceMul → sJ, reduceLT → sK, reduceLE → sL, reduceNeg → sM, reduceToNat → sN, reduceEq → sO
set_option maxHeartbeats 8000000
set_option maxRecDepth 100000
theorem woR_step {n : Nat} {es : List Entry} {j : Nat} (h : j < es.length) : woR (n / 2 ^ j) (es.drop j) = if n / 2 ^ j % 2 = 0 then getE es j :: woR (n / 2 ^ (j + 1)) (es.drop (j + 1)) else woR (n / 2 ^ (j + 1)) (es.drop (j + 1)) := by
  rw [drop_getD (d := default) h, Nat.pow_succ, ← Nat.div_div_eq_div_mul]; rfl
theorem woR_end {n : Nat} {es : List Entry} {j : Nat} (h : es.length ≤ j) : woR (n / 2 ^ j) (es.drop j) = [] := by rw [List.drop_of_length_le h]; cases n / 2 ^ j <;> rfl
def wrS (n : Nat) (es : List Entry) (j : Nat) (acc : List Entry) : List Entry := if n / 2 ^ j % 2 = 0 then acc ++ [getE es j] else acc
theorem wr_next {n : Nat} {es acc : List Entry} {j : Nat} {R : List Entry} (h : j < es.length) (hc : acc.length ≤ j) (hw : acc ++ woR (n / 2 ^ j) (es.drop j) = R) : j + 1 ≤ es.length ∧ (wrS n es j acc).length ≤ j + 1 ∧ wrS n es j acc ++ woR (n / 2 ^ (j + 1)) (es.drop (j + 1)) = R := by
  rw [woR_step h] at hw
  unfold wrS
  split
  · rename_i hj; rw [if_pos hj] at hw; exact ⟨h, by simp; omega, by rw [← hw]; simp⟩
  · rename_i hj; rw [if_neg hj] at hw; exact ⟨h, by omega, hw⟩
theorem wr_in {n : Nat} {es acc : List Entry} {j : Nat} (h : ((n / 2 ^ j : Nat) : Int) % 2 = 0) : wrS n es j acc = acc ++ [getE es j] := if_pos (by omega)
theorem wr_out {n : Nat} {es acc : List Entry} {j : Nat} (h : ¬ ((n / 2 ^ j : Nat) : Int) % 2 = 0) : wrS n es j acc = acc := if_neg (by omega)
theorem c51 (a : Acc) (n : Nat) (hl2 : a.entries.length ≤ 16) : PCall Go.Proofs.Try.prog 51 [avA a, i64 n] (avA (withoutR a n)) := by
  refine pcall_mk (v := []) (q := []) (N := 33) (rs := [.cell 4 25]) Go.Proofs.Try.func51 rfl rfl rfl rfl rfl ?_
  refine awp_seq_k fun K1 hK1 => ?_
  refine awp_ops ?_
  simp (disch := omega) only [amL, amT, sA, sB, sF, ↓reduceIte]
  refine hK1 _ ?_
  refine awp_seq_k fun K2 hK2 => ?_
  refine awp_ops ?_
  simp (disch := omega) only [amL, amT, sA, sB, sF, ↓reduceIte]
  refine hK2 _ ?_
  refine awp_seq_k fun K3 hK3 => ?_
  refine awp_ops ?_
  simp (disch := omega) only [amL, amT, sA, sB, ↓reduceIte, reduceCtorEq]
  refine hK3 _ ?_
  refine awp_seq_k fun K4 hK4 => ?_
  refine awp_seq_k fun K5 hK5 => ?_
  refine awp_ops ?_
  simp (disch := omega) only [amL, sA]
  refine hK5 _ ?_
  refine awp_block ?_
  refine awp_adoptC' 30 5 5 5 (by decide) rfl rfl rfl ?_
  refine awp_loop_k (α := Nat × List Entry) (fun x => ⟨T [(1, i64 (n : Int)), (2, .ptr 2 0), (4, .ptr 4 0), (5, .ptr 5 0), (6, i64 (x.1 : Int))], O [(5, .cells [i64 a.last, i64 a.interest, i64 a.bond, i64 a.purse, .p (.sl (a.rates.map encR)), .own 30 x.2.length]), (30, .arr 5 (x.2.map encE)), (2, .cells (cA a)), (4, .cells [i64 0, i64 0, i64 0, i64 0, .p (.val (.slice none 0 0)), .p (.val (.slice none 0 0))])]⟩) (fun x => a.entries.length - x.1) (fun x => x.1 ≤ a.entries.length ∧ x.2.length ≤ x.1 ∧ x.2 ++ woR (n / 2 ^ x.1) (a.entries.drop x.1) = woR n a.entries) (0, []) ?_ ?_ (fun x hx6 K6 hK6 => ?_)
  · exact ⟨by omega, by simp, by simp⟩
  · refine le_mk ?_ ?_ ?_ ?_ <;> (try simp (disch := omega) only [amL, sF, sG, ↓reduceIte, reduceCtorEq])
  obtain ⟨j, acc⟩ := x; dsimp only at hx6 ⊢; obtain ⟨hj, hc, hw⟩ := hx6
  refine awp_seq_k fun K7 hK7 => ?_
  refine awp_seq_k fun K8 hK8 => ?_
  refine awp_ops ?_
  simp (disch := omega) only [amL, amT, sA, sF, ↓reduceIte, reduceCtorEq]
  refine hK8 _ ?_
  refine awp_cond rfl (fun h => ?_) (fun h => ?_)
  ·first
   | exact Bool.noConfusion h
   |skip
    try simp only [decide_eq_true_eq] at h
    refine awp_skip ?_
    refine hK7 _ ?_
    refine awp_seq_k fun K9 hK9 => ?_
    refine awp_block ?_
    refine awp_seq_k fun K10 hK10 => ?_
    refine awp_ops ?_
    simp (disch := omega) only [wrapU, shrN, amL, amT, sA, sF, sO, ↓reduceIte]
    refine hK10 _ ?_
    refine awp_cond rfl (fun h => ?_) (fun h => ?_)
    ·first
     | exact Bool.noConfusion h
     |skip
      try simp only [decide_eq_true_eq] at h
      refine awp_any2 (by kernel_rfl) (by kernel_rfl) ?_
      simp (disch := omega) only [encE_getD, amL, amT, sA, sB, sC, sE, sF, ↓reduceIte, reduceCtorEq]
      refine hK9 _ ?_
      refine awp_ops ?_
      simp (disch := omega) only [amL, amT, sA, sF, ↓reduceIte]
      refine hK6 (j+1, wrS n a.entries j acc) _ ?_ ?_ (le_mk ?_ ?_ ?_ ?_)
      all_goals (try simp (disch := omega) only [amL, sF, sG, ↓reduceIte])
      all_goals first | omega | exact wr_next (by omega) hc hw | (rw [wr_out (by assumption)]; exact ⟨rfl, rfl⟩) | (rw [wr_in (by assumption)]; refine ⟨?_, ?_⟩ <;> simp; done) | (omega)
    ·first
     | exact Bool.noConfusion h
     |skip
      try simp only [decide_eq_false_iff_not] at h
      refine awp_skip ?_
      refine hK9 _ ?_
      refine awp_ops ?_
      simp (disch := omega) only [amL, amT, sA, sF, ↓reduceIte]
      refine hK6 (j+1, wrS n a.entries j acc) _ ?_ ?_ (le_mk ?_ ?_ ?_ ?_)
      all_goals (try simp (disch := omega) only [amL, sF, sG, ↓reduceIte])
      all_goals first | omega | exact wr_next (by omega) hc hw | (rw [wr_out (by assumption)]; exact ⟨rfl, rfl⟩) | (rw [wr_in (by assumption)]; refine ⟨?_, ?_⟩ <;> simp; done) | (omega)
  ·first
   | exact Bool.noConfusion h
   |skip
    try simp only [decide_eq_false_iff_not] at h
    refine awp_exit ?_
    refine hK4 _ ?_
    refine awp_seq_k fun K11 hK11 => ?_
    refine awp_ops ?_
    simp (disch := omega) only [amL, amT, sB, sF, ↓reduceIte]
    refine hK11 _ ?_
    refine awp_ret ?_
    try simp (disch := omega) only [amL, amT, sB, sF, ↓reduceIte]
    rw [woR_end (by omega), List.append_nil] at hw; rw [List.take_of_length_le (by simp), hw]; rfl
def lvTo (a : Acc) (k : Nat) : List Int := (leaveTo a k).getD []
theorem lvTo_some (a : Acc) : ∀ k, leaveTo a k = some (lvTo a k)
  | 0 => rfl
  | k + 1 => by
    unfold lvTo
    rw [leaveTo_succ, lvTo_some a k]
    unfold bestStep
    split
    · rename_i h; cases h
    · split <;> rfl
theorem lv_yes {a : Acc} {k : Nat} (h1 : shorterS (bitsS k) (lvTo a k) = true) (h2 : leaves1 a (bitsS k) = true) : lvTo a (k + 1) = bitsS k := by
  unfold lvTo; rw [leaveTo_succ, lvTo_some a k]; unfold bestStep; dsimp only
  rw [if_pos ⟨h1, h2⟩]; rfl
theorem lv_no {a : Acc} {k : Nat} (h : shorterS (bitsS k) (lvTo a k) = false ∨ leaves1 a (bitsS k) = false) : lvTo a (k + 1) = lvTo a k := by
  conv => lhs; unfold lvTo
  rw [leaveTo_succ, lvTo_some a k]; unfold bestStep; dsimp only
  rw [if_neg (by rcases h with h | h <;> simp [h])]; rfl
theorem lv_len (a : Acc) : ∀ k, (lvTo a k).length ≤ 16
  | 0 => bits_len _
  | k + 1 => by
    cases h1 : shorterS (bitsS k) (lvTo a k)
    · rw [lv_no (.inl h1)]; exact lv_len a k
    · cases h2 : leaves1 a (bitsS k)
      · rw [lv_no (.inr h2)]; exact lv_len a k
      · rw [lv_yes h1 h2]; exact bits_len k
abbrev lvR (a : Acc) : List Int := lvTo a (2 ^ a.entries.length)
end AM.Try
end
/- The law of leaving out. -/
section
namespace AM.Try
open Go AM AM.Duty
open Nat renaming reduceLT → sA, reduceAdd → sB, reduceMul → sC, reduceSub → sD, reduceLeDiff → sE, reduceEqDiff → sF, reduceBEq → sG
open Int renaming reduceAdd → sH, reduceSub → sI, reduceMul → sJ, reduceLT → sK, reduceLE → sL, reduceNeg → sM, reduceToNat → sN, reduceEq → sO
set_option maxHeartbeats 8000000
set_option maxRecDepth 100000
theorem lvR_some {a : Acc} (hf : faultS a = 0) : leaveL a = some (lvR a) := by rw [leave_eq hf]; exact lvTo_some a _
theorem lA6 (a : Acc) : leaveA a = if faultS a = 0 then .tup [.p (dsV (lvR a)), i64 0] else .tup [.p (.val (.slice none 0 0)), i64 (faultS a)] := by
  unfold leaveA
  by_cases hf : faultS a = 0
  · rw [if_pos hf, if_pos hf, lvR_some hf]
    simp only [dsV_p]
  · rw [if_neg hf, if_neg hf]
end AM.Try
end
/- The laws' own plays. -/
section
namespace AM.Try
open Go AM AM.Duty
open Nat renaming reduceLT → sA, reduceAdd → sB, reduceMul → sC, reduceSub → sD, reduceLeDiff → sE, reduceEqDiff → sF, reduceBEq → sG
open Int renaming reduceAdd → sH, reduceSub → sI, reduceMul → sJ, reduceLT → sK, reduceLE → sL, reduceNeg → sM, reduceToNat → sN, reduceEq → sO
set_option maxHeartbeats 8000000
set_option maxRecDepth 100000
def readyS (a : Acc) : Bool := thinS a && decide (faultS a = 0)
theorem c46 (a : Acc) : PCall Go.Proofs.Try.prog 46 [avA a] (bl (readyS a)) := by
  refine pcall_mk (v := []) (q := []) (N := 10) (rs := [.tmp 2]) Go.Proofs.Try.func46 rfl rfl rfl rfl rfl ?_
  cases hth : thinS a <;> by_cases hf : faultS a = 0
  all_goals try obtain ⟨hl1, hl2⟩ := thin_len hth
  all_goals
    refine awp_seq_k fun K1 hK1 => ?_
    refine awp_ops ?_
    simp (disch := omega) only [amL, sA, ↓reduceIte]
    refine hK1 _ ?_
    refine awp_seq_k fun K2 hK2 => ?_
    refine awp_ops ?_
    simp (disch := omega) only [amL, amT, sA, sB, sF, ↓reduceIte]
    repeat' first | (refine EG_dec (fun h => ?_) (fun h => ?_) <;> simp (disch := omega) only [h, ne_eq, hth, hf, amL, amT, sA, sB, sC, sD, sE, sF, sG, sH, sI, sJ, sK, sL, sM, sN, sO, ↓reduceIte, reduceCtorEq]) | (refine EG_cases (fun h => ?_) (fun h => ?_) <;> simp (disch := omega) only [h, ne_eq, hth, hf, amL, amT, sA, sB, sC, sD, sE, sF, sG, sH, sI, sJ, sK, sL, sM, sN, sO, ↓reduceIte, reduceCtorEq]) | (refine EC_intro (by kernel_rfl) rfl (c19t a) (by first | exact .inl rfl | exact .inr (.inl rfl)) ?_ ; simp (disch := omega) only [hth, amL, amT, sA, sB, sF, ↓reduceIte]) | (refine EC_intro (by kernel_rfl) rfl (c24 a (by omega) (by omega)) (by first | exact .inl rfl | exact .inr (.inl rfl)) ?_ ; simp (disch := omega) only [hf, amL, amT, sA, sF, ↓reduceIte])
    all_goals
     skip
     refine hK2 _ ?_
     refine awp_ret ?_
     try simp (disch := omega) only [amL, ↓reduceIte]
     all_goals first | (simp [readyS, hth, hf]; done) | (omega)
end AM.Try
end
/- Plain laws: two entries change places; wider ranges. -/
section
namespace AM.Try
open Go AM AM.Duty
open Nat renaming reduceLT → sA, reduceAdd → sB, reduceMul → sC, reduceSub → sD, reduceLeDiff → sE, reduceEqDiff → sF, reduceBEq → sG
open Int renaming reduceAdd → sH, reduceSub → sI, reduceMul → sJ, reduceLT → sK, reduceLE → sL, reduceNeg → sM, reduceToNat → sN, reduceEq → sO
theorem leave_some_of {a : Acc} (hf : faultS a = 0) {l : List Int} (h : leaveL a = some l) : planS ((a.entries.length : Int) - 1) (-1) l = true ∧ leaves1 a l = true ∧ ∀ m, planS ((a.entries.length : Int) - 1) (-1) m = true → leaves1 a m = true → shorterS m l = false := by
  have := leaveL_best hf
  rw [h] at this
  obtain ⟨h1, h2⟩ := this
  simp only [Bool.and_eq_true] at h1 h2
  exact ⟨h1.1, h1.2, fun m g1 g2 => h2 m ⟨g1, g2⟩⟩
end AM.Try
end
/- Plain laws: sets of entries by bits; one entry changed or left out. -/
section
namespace AM.Try
open Go AM AM.Duty
open Nat renaming reduceLT → sA, reduceAdd → sB, reduceMul → sC, reduceSub → sD, reduceLeDiff → sE, reduceEqDiff → sF, reduceBEq → sG
open Int renaming reduceAdd → sH, reduceSub → sI, reduceMul → sJ, reduceLT → sK, reduceLE → sL, reduceNeg → sM, reduceToNat → sN, reduceEq → sO
theorem bitsF_test : ∀ {c p n i : Nat}, ((i : Int) ∈ bitsF c p n) ↔ p ≤ i ∧ i < p + c ∧ n.testBit (i - p) = true
  | 0, p, n, i => by simp only [bitsF, List.not_mem_nil, false_iff]; omega
  | c + 1, p, n, i => by
    have ih := bitsF_test (c := c) (p := p + 1) (n := n / 2) (i := i)
    by_cases hi : i = p
    · subst hi
      have h0 : n.testBit 0 = decide (n % 2 = 1) := Nat.testBit_zero n
      have h1 : ¬ ((i : Int) ∈ bitsF c (i + 1) (n / 2)) := fun h => by have := (bitsF_test (c := c)).1 h; omega
      simp only [bitsF, Nat.sub_self, h0, decide_eq_true_eq]
      split
      · rename_i h; simp [h]
      · rename_i h; simp [h, h1]
    · have h2 : p + 1 ≤ i → n.testBit (i - p) = (n / 2).testBit (i - (p + 1)) := fun h => by
        rw [show i - p = (i - (p + 1)) + 1 by omega, Nat.testBit_succ]
      have h3 : ((i : Int) ∈ bitsF (c + 1) p n) ↔ ((i : Int) ∈ bitsF c (p + 1) (n / 2)) := by
        simp only [bitsF]
        split
        · rw [List.mem_cons]; exact ⟨fun h => h.resolve_left (by omega), .inr⟩
        · exact Iff.rfl
      rw [h3, ih]
      constructor
      · rintro ⟨h4, h5, h6⟩; exact ⟨by omega, by omega, by rw [h2 h4]; exact h6⟩
      · rintro ⟨h4, h5, h6⟩; exact ⟨by omega, by omega, by rw [← h2 (by omega)]; exact h6⟩
theorem bits_test {n i : Nat} : ((i : Int) ∈ bitsS n) ↔ i < 16 ∧ n.testBit i = true := by
  unfold bitsS; rw [bitsF_test]; simp
def setN (l : List Int) : Nat := l.foldl (fun s x => s ||| 2 ^ x.toNat) 0
theorem setN_take {l : List Int} {k : Nat} (h : k < l.length) : setN (l.take (k + 1)) = setN (l.take k) ||| 2 ^ (l.getD k 0).toNat := by
  unfold setN
  rw [List.take_add_one, List.foldl_append]
  have : l[k]? = some (l.getD k 0) := by rw [List.getD_eq_getElem?_getD, List.getElem?_eq_getElem h]; rfl
  rw [this]; rfl
theorem set_test {i : Nat} : ∀ {l : List Int} {s : Nat}, (∀ x ∈ l, 0 ≤ x) → ((l.foldl (fun s x => s ||| 2 ^ x.toNat) s).testBit i = true ↔ s.testBit i = true ∨ (i : Int) ∈ l)
  | [], s, _ => by simp
  | x :: l, s, h => by
    rw [List.foldl_cons, set_test fun y hy => h y (by simp [hy]), Nat.testBit_or, Nat.testBit_two_pow, List.mem_cons, Bool.or_eq_true, decide_eq_true_eq, or_assoc]
    have h0 := h x (by simp)
    have : (x.toNat = i) = ((i : Int) = x) := propext ⟨fun e => by omega, fun e => by omega⟩
    rw [this]
theorem set_lt {m : Nat} : ∀ {l : List Int} {s : Nat}, s < 2 ^ m → (∀ x ∈ l, x.toNat < m) → l.foldl (fun s x => s ||| 2 ^ x.toNat) s < 2 ^ m
  | [], s, hs, _ => hs
  | x :: l, s, hs, h => by
    rw [List.foldl_cons]
    exact set_lt (Nat.or_lt_two_pow hs (Nat.pow_lt_pow_right (by decide) (h x (by simp)))) fun y hy => h y (by simp [hy])
theorem setN_lt {l : List Int} {m : Nat} (h : ∀ x ∈ l, x.toNat < m) : setN l < 2 ^ m := set_lt (Nat.pow_pos (by decide)) h
theorem plan_mem {last : Int} : ∀ {l : List Int} {p : Int}, planS last p l = true → ∀ x ∈ l, p < x ∧ x ≤ last
  | [], _, _, x, h => by cases h
  | n :: r, p, hp, x, h => by
    simp only [planS, Bool.and_eq_true, decide_eq_true_eq] at hp
    rcases List.mem_cons.1 h with rfl | h
    · omega
    · have := plan_mem hp.2.2 x h; omega
theorem without_set {a : Acc} {l : List Int} (hl : a.entries.length ≤ 16) (h : planS ((a.entries.length : Int) - 1) (-1) l = true) : withoutR a (setN l) = withoutP a l := by
  rw [← without_eq hl]
  unfold withoutP
  rw [woF_congr]
  intro i _
  rw [bits_test]
  unfold setN
  rw [set_test fun x hx => by have := plan_mem h x hx; omega]
  simp only [Nat.zero_testBit, Bool.false_eq_true, false_or]
  exact ⟨fun x => x.2, fun x => ⟨by have := plan_mem h _ x; omega, x⟩⟩
end AM.Try
end
/- The law of the fewest payments. -/
section
namespace AM.Try
open Go AM AM.Duty
open Nat renaming reduceLT → sA, reduceAdd → sB, reduceMul → sC, reduceSub → sD, reduceLeDiff → sE, reduceEqDiff → sF, reduceBEq → sG
open Int renaming reduceAdd → sH, reduceSub → sI, reduceMul → sJ, reduceLT → sK, reduceLE → sL, reduceNeg → sM, reduceToNat → sN, reduceEq → sO
set_option maxHeartbeats 8000000
set_option maxRecDepth 100000
theorem bv_nat {b n : Nat} (h : n < 2 ^ b) : (BitVec.ofInt b (n : Int)).toNat = n := by
  rw [BitVec.ofInt_natCast, BitVec.toNat_ofNat, Nat.mod_eq_of_lt h]
theorem fLen_ds {e : Nat} {ds : List Int} : fLen (.sl e) (.p (dsV ds)) = some (.pure (i64 ds.length)) := by
  cases ds with
  | nil => rfl
  | cons x l => show some _ = _; simp
end AM.Try
end
/- The law of order. -/
section
namespace AM.Try
open Go AM AM.Duty
open Nat renaming reduceLT → sA, reduceAdd → sB, reduceMul → sC, reduceSub → sD, reduceLeDiff → sE, reduceEqDiff → sF, reduceBEq → sG
open Int renaming reduceAdd → sH, reduceSub → sI, reduceMul → sJ, reduceLT → sK, reduceLE → sL, reduceNeg → sM, reduceToNat → sN, reduceEq → sO
set_option maxHeartbeats 8000000
set_option maxRecDepth 100000
theorem valid_in {x : Acc} (hf : faultS x = 0) : ∀ e ∈ x.entries, inR e.lo = true ∧ inR e.hi = true := fun e he => by
  have h := isEntry_small (List.all_eq_true.1 (fault_zero hf).2.2.2.2.1 e he)
  simp only [inR, Bool.and_eq_true, decide_eq_true_eq]; omega
end AM.Try
end
/- The law of what is left out. -/
section
namespace AM.Try
open Go AM AM.Duty
open Nat renaming reduceLT → sA, reduceAdd → sB, reduceMul → sC, reduceSub → sD, reduceLeDiff → sE, reduceEqDiff → sF, reduceBEq → sG
open Int renaming reduceAdd → sH, reduceSub → sI, reduceMul → sJ, reduceLT → sK, reduceLE → sL, reduceNeg → sM, reduceToNat → sN, reduceEq → sO
set_option maxHeartbeats 8000000
set_option maxRecDepth 100000
theorem fBin_or {P : Program} {t : TypeId} {k : TK} {a b : Nat} (ha : a < 65536) (hb : b < 65536) : fBin P t .or k (.p (.val (.int .i64 (a : Int)))) (.p (.val (.int .i64 (b : Int)))) = some (.pure (i64 ((a ||| b : Nat) : Int))) := by
  have h2 : a ||| b < 2 ^ 16 := Nat.or_lt_two_pow ha hb
  have h1 : IntKind.i64.wrap (((BitVec.ofInt IntKind.i64.bits (a : Int) ||| BitVec.ofInt IntKind.i64.bits (b : Int)).toNat : Nat) : Int) = ((a ||| b : Nat) : Int) := by
    rw [BitVec.toNat_or, bv_nat (Nat.lt_of_lt_of_le ha (by decide)), bv_nat (Nat.lt_of_lt_of_le hb (by decide))]
    exact wrap64 (by omega) (by omega)
  show (binV .or (.int .i64 (a : Int)) (.int .i64 (b : Int))).map (fun v => Eff.pure (.p (.val v))) = _
  simp only [binV, bitsOp, if_true, h1, Option.map_some]
theorem c57d (x ds : List Int) (hx : x.length < 1000000) (h : ds.length < 1000000) : PCall Go.Proofs.Try.prog 57 [isl x, .p (dsV ds)] (bl (shorterS x ds)) := by
  have h2 := c57 x ds hx h
  cases ds with
  | nil => exact PCall.of_nil 1 rfl h2
  | cons y l => exact h2
theorem dsV_sl {l : List Int} {k : Nat} (h : k < l.length) : dsV l = .sl (l.map encI) := by
  cases l with
  | nil => simp at h
  | cons x l => rfl
theorem plan_inc {last : Int} : ∀ {l : List Int} {p : Int} {k : Nat}, planS last p l = true → k + 1 < l.length → l.getD k 0 < l.getD (k + 1) 0
  | [], _, _, _, h => by simp at h
  | [_], _, _, _, h => by simp at h
  | x :: y :: l, p, 0, hp, _ => by
    simp only [planS, Bool.and_eq_true, decide_eq_true_eq] at hp
    exact hp.2.2.1
  | x :: y :: l, p, k + 1, hp, h => by
    simp only [planS, Bool.and_eq_true, decide_eq_true_eq] at hp
    have := plan_inc (l := y :: l) (p := x) (k := k) (last := last) (by simp only [planS, Bool.and_eq_true, decide_eq_true_eq]; exact hp.2.2) (by simpa using h)
    simpa using this
theorem fault_woR {a : Acc} (hf : faultS a = 0) (n : Nat) : faultS (withoutR a n) = 0 := by
  have hl := (fault_zero hf).2.1
  rw [← without_eq (by omega)]
  exact fault_wo hf _
theorem c16 (a : Acc) (b : Nat) (hin : AccIn a) (h3 : b < 256) : PCall Go.Proofs.Try.prog 16 [avA a, .p (.val (.int .u8 (b : Int)))] (bl true) := by
  refine pcall_mk (v := []) (q := []) (N := 110) (rs := [.tmp 4]) Go.Proofs.Try.func16 rfl rfl rfl rfl rfl ?_
  have lA := lA6 a
  have hin' := in_of hin
  have hwr3 : IntKind.i64.wrap (b : Int) = (b : Int) := wrap64 (by omega) (by omega)
  cases hr : readyS a
  all_goals
    first
    | (have hrr : thinS a = true ∧ faultS a = 0 := by simpa [readyS] using hr
       obtain ⟨ht, hf⟩ := hrr
       obtain ⟨hl1, hl2⟩ := thin_len ht
       have hlE := (fault_zero hf).2.1
       obtain ⟨p1, p2, p3⟩ := leave_some_of hf (lvR_some hf)
       have hlv : (lvR a).length ≤ 16 := lv_len a (2 ^ a.entries.length)
       have hbm := bits_mem (k := a.entries.length) (l := bitsS (b % 2 ^ a.entries.length)) (by omega)
       have hpl2 := hbm.1 (List.mem_map.2 ⟨_, List.mem_range.2 (Nat.mod_lt _ (Nat.pow_pos (by decide))), rfl⟩)
       have hset := without_set (by omega) p1
       have hsl : setN (lvR a) < 2 ^ 16 := setN_lt fun x hx => by have := plan_mem p1 x hx; omega
       have hst : ∀ k, setN ((lvR a).take k) < 2 ^ 16 := fun k => setN_lt fun x hx => by have := plan_mem p1 x (List.mem_of_mem_take hx); omega
       have hsf := p3 (bitsS (b % 2 ^ a.entries.length)) hpl2
       have hlw : leaves1 a (bitsS (b % 2 ^ a.entries.length)) = !(truthsR (withoutR a (b % 2 ^ a.entries.length))).isEmpty := by
         unfold leaves1; rw [possible_eq, without_eq (by omega)]
       have hw1 : (truthsR (withoutR a (setN (lvR a)))).isEmpty = false := by
         rw [hset]
         unfold leaves1 at p2; rw [possible_eq] at p2
         simpa using p2
       have hfw1 := fault_woR hf (setN (lvR a))
       have hfw2 := fault_woR hf (b % 2 ^ a.entries.length)
       have kA1 := kA4 (withoutR a (setN (lvR a)))
       rw [if_pos hfw1, hw1] at kA1
       have kA2 := kA4 (withoutR a (b % 2 ^ a.entries.length))
       rw [if_pos hfw2] at kA2
       generalize hN : a.entries.length = N at hlE kA2 hfw2 hlw hsf hpl2
       have hsh := shl1 (n := N) (by omega)
       have hpo := pow_le (n := N) (by omega)
       have hpp : 0 < 2 ^ N := Nat.pow_pos (by decide)
       have hdm : b % 2 ^ N < 2 ^ N := Nat.mod_lt _ hpp
       have hmod : (b : Int) % ((2 ^ N : Nat) : Int) = ((b % 2 ^ N : Nat) : Int) := by rw [Int.natCast_emod]
       have hz1 := fault_zero hfw1
       have hz2 := fault_zero hfw2
       cases hE2 : (truthsR (withoutR a (b % 2 ^ N))).isEmpty)
    | (have hf := hwr3; have hE2 := hwr3; have kA1 := hwr3; have kA2 := hwr3; have hN := hwr3; have hsh := hwr3; have hmod := hwr3)
  all_goals
    first
    | have hsf2 := hsf (by rw [hlw, hE2]; rfl)
    | have hsf2 := hwr3
  all_goals
    refine awp_seq_k fun K1 hK1 => ?_
    refine awp_ops ?_
    simp (disch := omega) only [amL, sA, sB, ↓reduceIte]
    refine hK1 _ ?_
    refine awp_seq_k fun K2 hK2 => ?_
    refine awp_seq_k fun K3 hK3 => ?_
    refine awp_ops ?_
    simp (disch := omega) only [amL, amT, sA, sB, sF, ↓reduceIte]
    repeat' first | (refine EC_intro (by kernel_rfl) rfl (c46 a) (by first | exact .inl rfl | exact .inr (.inl rfl)) ?_ ; simp (disch := omega) only [hr, amL, sA, ↓reduceIte])
    refine hK3 _ ?_
    refine awp_cond rfl (fun h => ?_) (fun h => ?_)
    ·first
     | exact Bool.noConfusion h
     |skip
      try simp only [] at h
      refine awp_seq_k fun K4 hK4 => ?_
      refine awp_ops ?_
      simp (disch := omega) only [amL]
      repeat' first | (refine EC_intro (by kernel_rfl) rfl (c20) (by first | exact .inl rfl | exact .inr (.inl rfl)) ?_ ; simp (disch := omega) only [amL, sA, ↓reduceIte])
      refine hK4 _ ?_
      refine awp_ret ?_
      try simp (disch := omega) only [amL, ↓reduceIte]
      all_goals first | rfl | (omega)
    ·first
     | exact Bool.noConfusion h
     |skip
      try simp only [] at h
      refine awp_skip ?_
      refine hK2 _ ?_
      refine awp_seq_k fun K5 hK5 => ?_
      refine awp_ops ?_
      simp (disch := omega) only [amL, amT, sA, sB, sF, ↓reduceIte]
      repeat' first | (refine EC_intro (by kernel_rfl) rfl (by first | exact c22 a (by omega) (by omega) | exact c22 (withoutR a (setN (lvR a))) (by omega) (by omega) | exact c22 (withoutR a (b % 2 ^ N)) (by omega) (by omega)) (by first | exact .inl rfl | exact .inr (.inl rfl)) ?_ ; simp (disch := omega) only [amL, ↓reduceIte]) | (refine EC_intro (by kernel_rfl) rfl (c42 a (by omega) (by omega) hin') (by first | exact .inl rfl | exact .inr (.inl rfl)) ?_ ; simp (disch := omega) only [lA, hf, amL, sA, sF, ↓reduceIte])
      refine hK5 _ ?_
      refine awp_seq_k fun K6 hK6 => ?_
      refine awp_seq_k fun K7 hK7 => ?_
      refine awp_ops ?_
      simp (disch := omega) only [ne_eq, amL, amT, sA, ↓reduceIte]
      refine hK7 _ ?_
      refine awp_cond rfl (fun h => ?_) (fun h => ?_)
      ·first
       | exact Bool.noConfusion h
       |skip
        try simp only [Bool.not_eq_true', decide_eq_true_eq, decide_eq_false_iff_not, Bool.and_eq_true, Bool.not_eq_false', Bool.not_not, decide_not, Bool.not_true, Bool.not_false] at h
        refine awp_seq_k fun K8 hK8 => ?_
        refine awp_ops ?_
        simp (disch := omega) only [lA, hr, hf, hE2, kA1, kA2, hsf2, hwr3, wrapU, hN, hsh, hmod, fBin_or, fLen_ds, ne_eq, amL, amT, sA, sB, sC, sD, sE, sF, sG, sH, sI, sJ, sK, sL, sM, sN, sO, ↓reduceIte, reduceCtorEq]
        refine hK8 _ ?_
        refine awp_ret ?_
        try simp (disch := omega) only [lA, hr, hf, hE2, kA1, kA2, hsf2, hwr3, wrapU, hN, hsh, hmod, fBin_or, fLen_ds, ne_eq, amL, amT, sA, sB, sC, sD, sE, sF, sG, sH, sI, sJ, sK, sL, sM, sN, sO, ↓reduceIte, reduceCtorEq]
        all_goals first | rfl | (omega)
      ·first
       | exact Bool.noConfusion h
       |skip
        try simp only [] at h
        refine awp_skip ?_
        refine hK6 _ ?_
        refine awp_seq_k fun K9 hK9 => ?_
        refine awp_ops ?_
        simp (disch := omega) only [amL, sA]
        refine hK9 _ ?_
        refine awp_seq_k fun K10 hK10 => ?_
        refine awp_seq_k fun K11 hK11 => ?_
        refine awp_ops ?_
        simp (disch := omega) only [amL, sA]
        refine hK11 _ ?_
        refine awp_block ?_
        skip
        refine awp_loop_k (α := Nat) (fun k => ⟨T [(2, .ptr 2 0), (1, .p (.val (.int .u8 (b : Int)))), (5, .p (dsV (lvR a))), (7, i64 (setN ((lvR a).take k) : Int)), (8, i64 (k : Int))], O [(2, .cells (cA a))]⟩) (fun k => (lvR a).length - k) (fun k => k ≤ (lvR a).length) 0 ?_ ?_ (fun k hx12 K12 hK12 => ?_)
        · simp
        · refine le_mk ?_ ?_ ?_ ?_ <;> (try simp (disch := omega) only [amL, sF, ↓reduceIte, reduceCtorEq]); all_goals first | rfl | (omega)
        have hk := hx12
        refine awp_seq_k fun K13 hK13 => ?_
        refine awp_seq_k fun K14 hK14 => ?_
        refine awp_ops ?_
        simp (disch := omega) only [fLen_ds, amL, amT, sA, sF, ↓reduceIte]
        refine hK14 _ ?_
        refine awp_cond rfl (fun h => ?_) (fun h => ?_)
        ·first
         | exact Bool.noConfusion h
         |skip
          try simp only [decide_eq_true_eq] at h
          refine awp_skip ?_
          refine hK13 _ ?_
          refine awp_seq_k fun K15 hK15 => ?_
          refine awp_block ?_
          refine awp_seq_k fun K16 hK16 => ?_
          refine awp_seq_k fun K17 hK17 => ?_
          refine awp_any2 (by kernel_rfl) (by kernel_rfl) ?_
          have hk2 : k < (lvR a).length := by omega
          have hds := dsV_sl hk2
          have hm1 := plan_mem p1 _ (getD_mem 0 hk2)
          have hinB : inB ((lvR a).getD k 0) 0 ((N : Int) - 1) = true := (by unfold inB; simp only [Bool.and_eq_true, decide_eq_true_eq]; omega)
          have hle : 0 < k → (((lvR a).getD k 0 ≤ (lvR a).getD (k - 1) 0) = False) := fun h0 => eq_false (by have := plan_inc (k := k - 1) p1 (by omega); rw [show k - 1 + 1 = k by omega] at this; omega)
          simp (disch := omega) only [hds, hN, amL, amT, sA, sF, ↓reduceIte, reduceCtorEq]
          repeat' first | (refine EG_dec (fun h => ?_) (fun h => ?_) <;> simp (disch := omega) only [h, toNat_pred, hle, amL, amT, sA, sF, ↓reduceIte]) | (refine EG_cases (fun h => ?_) (fun h => ?_) <;> simp (disch := omega) only [h, hds, hinB, toNat_pred, hle, lA, hr, hf, hE2, kA1, kA2, hsf2, hwr3, wrapU, hN, hsh, hmod, fBin_or, fLen_ds, ne_eq, amL, amT, sA, sB, sC, sD, sE, sF, sG, sH, sI, sJ, sK, sL, sM, sN, sO, ↓reduceIte, reduceCtorEq]) | (refine EC_intro (by kernel_rfl) rfl (c48 _ _ _) (by first | exact .inl rfl | exact .inr (.inl rfl)) ?_ ; simp (disch := omega) only [hinB, amL, amT, sA, sF, ↓reduceIte])
          all_goals
           skip
           refine hK17 _ ?_
           refine awp_cond rfl (fun h => ?_) (fun h => ?_)
           ·first
            | exact Bool.noConfusion h
            |skip
             try simp only [Bool.not_eq_true', decide_eq_true_eq, decide_eq_false_iff_not, Bool.and_eq_true, Bool.not_eq_false', Bool.not_not, decide_not, Bool.not_true, Bool.not_false] at h
             refine awp_seq_k fun K18 hK18 => ?_
             refine awp_ops ?_
             simp (disch := omega) only [lA, hr, hf, hE2, kA1, kA2, hsf2, hwr3, wrapU, hN, hsh, hmod, fBin_or, fLen_ds, ne_eq, amL, amT, sA, sB, sC, sD, sE, sF, sG, sH, sI, sJ, sK, sL, sM, sN, sO, ↓reduceIte, reduceCtorEq]
             refine hK18 _ ?_
             refine awp_ret ?_
             try simp (disch := omega) only [lA, hr, hf, hE2, kA1, kA2, hsf2, hwr3, wrapU, hN, hsh, hmod, fBin_or, fLen_ds, ne_eq, amL, amT, sA, sB, sC, sD, sE, sF, sG, sH, sI, sJ, sK, sL, sM, sN, sO, ↓reduceIte, reduceCtorEq]
             all_goals first | rfl | (omega)
           ·first
            | exact Bool.noConfusion h
            |skip
             try simp only [] at h
             refine awp_skip ?_
             refine hK16 _ ?_
             refine awp_ops ?_
             have hk2 : k < (lvR a).length := by omega
             have hds := dsV_sl hk2
             have hm1 := plan_mem p1 _ (getD_mem 0 hk2)
             have hsx := shl1 (n := ((lvR a).getD k 0).toNat) (by omega)
             have hpx := pow_le (n := ((lvR a).getD k 0).toNat) (by omega)
             have hsk := hst k
             have hpx2 : 2 ^ ((lvR a).getD k 0).toNat < 65536 := Nat.pow_lt_pow_right (n := 16) (by decide) (by omega)
             have hwx : IntKind.i64.wrap ((2 ^ ((lvR a).getD k 0).toNat : Nat) : Int) = ((2 ^ ((lvR a).getD k 0).toNat : Nat) : Int) := (by generalize 2 ^ ((lvR a).getD k 0).toNat = z at hpx2 ⊢; exact wrap64 (by omega) (by omega))
             simp (disch := omega) only [hsx, hwx, fBin_or hsk hpx2, wrapU, amL, amT, sA, sF, ↓reduceIte]
             refine hK15 _ ?_
             refine awp_ops ?_
             simp (disch := omega) only [amL, amT, sA, sF, ↓reduceIte]
             refine hK12 (k+1) _ ?_ ?_ (le_mk ?_ ?_ ?_ ?_)
             all_goals (try simp (disch := omega) only [amL, sF, ↓reduceIte])
             all_goals first | omega | (rw [hds, setN_take hk2]; exact ⟨rfl, rfl⟩) | (rw [hds]; done) | (rw [setN_take hk2]; done) | (omega)
        ·first
         | exact Bool.noConfusion h
         |skip
          try simp only [decide_eq_false_iff_not] at h
          refine awp_exit ?_
          refine hK10 _ ?_
          refine awp_seq_k fun K19 hK19 => ?_
          refine awp_ops ?_
          have hke : (lvR a).take k = lvR a := List.take_of_length_le (by omega)
          simp (disch := omega) only [hke, hsf2, hwr3, wrapU, hN, hsh, hmod, amL, amT, sA, sF, ↓reduceIte, reduceCtorEq]
          refine hK19 _ ?_
          refine awp_seq_k fun K20 hK20 => ?_
          refine awp_ops ?_
          simp (disch := omega) only [amL, amT, sA, sB, sF, ↓reduceIte]
          repeat' first | (refine EC_intro (by kernel_rfl) rfl (by first | exact c51 a (setN (lvR a)) (by omega) | exact c51 a (b % 2 ^ N) (by omega)) (by first | exact .inl rfl | exact .inr (.inl rfl)) ?_ ; simp (disch := omega) only [amL, ↓reduceIte]) | (refine EC_intro (by kernel_rfl) rfl (by first | exact c22 a (by omega) (by omega) | exact c22 (withoutR a (setN (lvR a))) (by omega) (by omega) | exact c22 (withoutR a (b % 2 ^ N)) (by omega) (by omega)) (by first | exact .inl rfl | exact .inr (.inl rfl)) ?_ ; simp (disch := omega) only [amL, ↓reduceIte]) | (refine EC_intro (by kernel_rfl) rfl (by first | exact c31 (withoutR a (setN (lvR a))) (by omega) (by omega) (valid_in hfw1) | exact c31 (withoutR a (b % 2 ^ N)) (by omega) (by omega) (valid_in hfw2)) (by first | exact .inl rfl | exact .inr (.inl rfl)) ?_ ; simp (disch := omega) only [kA1, amL, sA, sF, ↓reduceIte])
          refine hK20 _ ?_
          refine awp_seq_k fun K21 hK21 => ?_
          refine awp_ops ?_
          simp (disch := omega) only [amL, amT, sA, sB, sF, ↓reduceIte]
          repeat' first | (refine EC_intro (by kernel_rfl) rfl (by first | exact c51 a (setN (lvR a)) (by omega) | exact c51 a (b % 2 ^ N) (by omega)) (by first | exact .inl rfl | exact .inr (.inl rfl)) ?_ ; simp (disch := omega) only [amL, ↓reduceIte]) | (refine EC_intro (by kernel_rfl) rfl (by first | exact c22 a (by omega) (by omega) | exact c22 (withoutR a (setN (lvR a))) (by omega) (by omega) | exact c22 (withoutR a (b % 2 ^ N)) (by omega) (by omega)) (by first | exact .inl rfl | exact .inr (.inl rfl)) ?_ ; simp (disch := omega) only [amL, ↓reduceIte]) | (refine EC_intro (by kernel_rfl) rfl (by first | exact c31 (withoutR a (setN (lvR a))) (by omega) (by omega) (valid_in hfw1) | exact c31 (withoutR a (b % 2 ^ N)) (by omega) (by omega) (valid_in hfw2)) (by first | exact .inl rfl | exact .inr (.inl rfl)) ?_ ; simp (disch := omega) only [hE2, kA2, amL, sA, sF, ↓reduceIte])
          refine hK21 _ ?_
          refine awp_seq_k fun K22 hK22 => ?_
          refine awp_ops ?_
          simp (disch := omega) only [amL, amT, sA, sF, sO, ↓reduceIte]
          repeat' first | (refine EG_dec (fun h => ?_) (fun h => ?_) <;> simp (disch := omega) only [h, lA, hr, hf, hE2, kA1, kA2, hsf2, hwr3, wrapU, hN, hsh, hmod, fBin_or, fLen_ds, ne_eq, amL, amT, sA, sB, sC, sD, sE, sF, sG, sH, sI, sJ, sK, sL, sM, sN, sO, ↓reduceIte, reduceCtorEq]) | (refine EG_cases (fun h => ?_) (fun h => ?_) <;> simp (disch := omega) only [h, lA, hr, hf, hE2, kA1, kA2, hsf2, hwr3, wrapU, hN, hsh, hmod, fBin_or, fLen_ds, ne_eq, amL, amT, sA, sB, sC, sD, sE, sF, sG, sH, sI, sJ, sK, sL, sM, sN, sO, ↓reduceIte, reduceCtorEq]) | (refine EC_intro (by kernel_rfl) rfl (c55 (b % 2 ^ N) (by omega)) (by first | exact .inl rfl | exact .inr (.inl rfl)) ?_ ; simp (disch := omega) only [amL, sA, sF, ↓reduceIte]) | (refine EC_intro (by kernel_rfl) rfl (c57d _ _ (by have := bits_len (b % 2 ^ N); omega) (Nat.lt_of_le_of_lt hlv (by decide))) (by first | exact .inl rfl | exact .inr (.inl rfl)) ?_ ; simp (disch := omega) only [hsf2, amL, sA, sF, ↓reduceIte]) | (refine EC_intro (by kernel_rfl) rfl (c20) (by first | exact .inl rfl | exact .inr (.inl rfl)) ?_ ; simp (disch := omega) only [amL, sA, sF, ↓reduceIte])
          all_goals
           skip
           refine hK22 _ ?_
           refine awp_ret ?_
           try simp (disch := omega) only [amL, ↓reduceIte]
           all_goals first | rfl | (omega)
end AM.Try
end
