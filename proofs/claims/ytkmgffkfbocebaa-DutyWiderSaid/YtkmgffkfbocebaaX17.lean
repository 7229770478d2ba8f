/- Lemmas for the proof: more of the program's functions, walked on the abstract machine. -/
import Derived.Test.YtkmgffkfbocebaaP5
import Derived.Test.YtkmgffkfbocebaaRows
import Derived.ProofKit
import Derived.Deep.Slices
import Derived.ChangeStays
/- The reference: truths. -/
section
namespace AM.Try
open Go AM AM.Duty
open Nat renaming reduceLT → sA, reduceAdd → sB, reduceMul → sC, reduceSub → sD, reduceLeDiff → sE, reduceEqDiff → sF, reduceBEq → sG
open Int renaming reduceAdd → sH, reduceSub → sI, reduceMul → sJ, reduceLT → sK, reduceLE → sL, reduceNeg → sM, reduceToNat → sN, reduceEq → sO
set_option maxHeartbeats 4000000
def isTruth (a : Acc) (t : List Int) : Bool := (debtsS a t []).2
def nthT (a : Acc) (n : Nat) : List Int := nthS a.entries (n : Int)
def manyT (a : Acc) : Nat := (sizes a.entries).toNat
def possibleS (a : Acc) : Bool := (List.range (manyT a)).any fun n => isTruth a (nthT a n)
end AM.Try
end
/- The statements: what is read of the arguments is what the walks take; what a pure call leaves is what the statements ask. -/
section
namespace AM.Try
set_option maxRecDepth 100000
open Go AM AM.Duty Go.ChangeShapes Go.WideShapes Go.ChangeAt Go.RowKit
noncomputable abbrev TP : Program := Go.Proofs.Try.prog
theorem tp_laid : laidOutB TP = true := by kernel_rfl
theorem tp_maps : mapsRowed TP = true := by kernel_rfl
theorem tp_kids : Kids TP (· < TP.types.size) := kids_rows tp_laid tp_maps
theorem tp_full : ∀ t e, t < TP.types.size → TP.underlying t = some (.slice e) → 0 < TP.cellsOf e := slices_full_of TP (by kernel_rfl)
theorem tp_own : ownKnob TP.godebug = none := by kernel_rfl
section
variable {H : Type} {enc : TypeId × Value → H} {W W' : World}
theorem same_at (hk : Keeps (fun b => W.heap.size ≤ b) W W') {p : MemPlace} (hp : p.block < W.heap.size) : W.sameAt W' p := by
  have h := hk.same p.block hp (by omega)
  cases p with
  | cell b off => simp only [World.sameAt, World.cell?]; rw [show W'.heap[b]? = W.heap[b]? from h]
  | map b => exact h
theorem reads_again (hk : Keeps (fun b => W.heap.size ≤ b) W W') (sp : Nat → Bool) : ∀ {ts : List TypeId} {vs : List Value} {ds : List (DataW H)} {p : List MemPlace},
    (∀ t ∈ ts, t < TP.types.size) → DataW.TrodAll enc TP W 0 (fun _ => true) true ts vs ds p → (∀ x ∈ p, x.block < W.heap.size) → (∀ x ∈ p, sp x.block = true) → DataW.TrodAll enc TP W' 0 sp true ts vs ds p
  | [], [], [], _, _, h, _, _ => h
  | _ :: _, _ :: _, _ :: _, _, hT, ⟨p, q, ⟨n, h1⟩, h2, e⟩, hl, hs =>
    ⟨p, q, ⟨n, DataW.trod_stays tp_kids (fun ht hu => tp_full _ _ ht hu) (fun h => by cases h) (hT _ (List.mem_cons.2 (Or.inl rfl))) h1 (fun x hx => same_at hk (hl x (by rw [e]; exact List.mem_append_left _ hx))) (fun x hx => hs x (by rw [e]; exact List.mem_append_left _ hx))⟩,
      reads_again hk sp (fun t ht => hT t (List.mem_cons.2 (Or.inr ht))) h2 (fun x hx => hl x (by rw [e]; exact List.mem_append_right _ hx)) (fun x hx => hs x (by rw [e]; exact List.mem_append_right _ hx)), e⟩
theorem kept_of_keeps (hk : Keeps (fun b => W.heap.size ≤ b) W W') (may : MemPlace → Prop) : W.keptBut W' may := by
  refine ⟨hk.os, hk.output, fun i hi => ?_⟩
  have h := hk.same i hi (by omega)
  rw [h]
  cases W.heap[i]? with
  | none => rfl
  | some o => cases o <;> first | exact ⟨rfl, rfl, rfl, fun _ _ => rfl⟩ | exact .inr ⟨rfl, rfl⟩ | rfl
theorem law_post {fn : Func} {s : ChangeSpec} {args : Array Value} {ds gs : List (DataW H)} {before : List MemPlace} (hr : fn.resultTypes = #[4]) (hp : ∀ t ∈ fn.params.toList, t < TP.types.size) (hv : s.vars = [])
    (hfn : s.fn H (ds ++ gs) = { results := [.lit (.bool true)], args := ds }) (hW : DataW.Whole enc TP fn.params.toList s.vars false W args.toList ds gs before) (hk : Keeps (fun b => W.heap.size ≤ b) W W') :
    s.post enc TP fn false true false false W args (.bool true) W' := by
  have hW0 := hW
  obtain ⟨p, q, hA, hV, rfl, hz, hn⟩ := hW
  rw [hv] at hV
  obtain ⟨rfl, rfl⟩ := trodVars_none hV
  have hlt : ∀ x ∈ p, x.block < W.heap.size := hA.lt
  refine ⟨ds, [], p ++ [], [], p, [], hW0, ?_, ?_, ?_, World.keptBut_mono (fun x hx => ⟨hx, .inr (.inl (by simpa using hx))⟩) (kept_of_keeps hk _), fun h => by cases h⟩
  · rw [hfn, hr]; exact trodAll_mk1 (shut_bool Go.Proofs.Try.underlying4 true)
  · rw [hfn]; exact reads_again hk _ hp hA hlt (fun x hx => by simpa using hlt x hx)
  · rw [hfn, hv]; rfl
theorem law_calls {f : FuncId} {avs : List AV} {fn : Func} {s : ChangeSpec} {args : Array Value} {ds gs : List (DataW H)} {before : List MemPlace} (hc : PCall TP f avs (bl true)) (hsz : args.size = avs.length) (hrel : ∀ θ (i : Nat) (x : AV), avs[i]? = some x → ARel θ (fun _ => False) W x (args.getD i undef))
    (hr : fn.resultTypes = #[4]) (hp : ∀ t ∈ fn.params.toList, t < TP.types.size) (hv : s.vars = []) (hfn : s.fn H (ds ++ gs) = { results := [.lit (.bool true)], args := ds }) (hW : DataW.Whole enc TP fn.params.toList s.vars false W args.toList ds gs before) :
    Calls TP f args W fun e W' => ∃ v, e = .returned v ∧ s.post enc TP fn false true false false W args v W' := by
  refine (hc.2 (fun _ => ⟨0, 0, true⟩) (fun _ => False) W args (fun b h => h.elim) hsz (fun i x hx => hrel _ i x hx)).mono ?_
  rintro e W' ⟨v, rfl, hv', hk⟩
  cases hv' with
  | p _ _ h =>
    cases h with
    | val _ _ => exact ⟨_, rfl, law_post hr hp hv hfn hW hk⟩
theorem prel_rows {rows : List (List Int)} {b o len cap k : Nat} (hlen : rows.length = len) (hc : len ≤ cap) (hk : ∀ r ∈ rows, r.length = k)
    (hcell : ∀ (i : Nat) (r : List Int) (j : Nat) (m : Int), rows[i]? = some r → r[j]? = some m → W.cell? ⟨b, o + (i * k + j), none⟩ = some (.int .i64 m)) : PRel (fun _ => False) W (.sl (rows.map fun r => r.map iv)) (.slice (some ⟨b, o, none⟩) len cap) := by
  have h := PRel.sl (M := fun _ => False) (w := W) (rows.map fun r => r.map iv) b o cap k (fun i j => (W.cell? ⟨b, o + (i * k + j), none⟩).getD undef) (fun i e he => ?_) (by rw [List.length_map, hlen]; exact hc) (fun i e j x he hx => ?_) (fun i e j x he hx => ?_)
  · rw [List.length_map, hlen] at h; exact h
  · simp only [List.getElem?_map, Option.map_eq_some_iff] at he
    obtain ⟨r, hr, rfl⟩ := he
    rw [List.length_map]; exact hk r (List.mem_of_getElem? hr)
  all_goals
    simp only [List.getElem?_map, Option.map_eq_some_iff] at he
    obtain ⟨r, hr, rfl⟩ := he
    simp only [List.getElem?_map, Option.map_eq_some_iff] at hx
    obtain ⟨m, hm, rfl⟩ := hx
    have hc := hcell i r j m hr hm
    rw [hc]
  · exact ⟨fun h => h, rfl⟩
  · exact .val _ rfl
theorem inR_wf {m : Int} (h : (Lit.int .i64 m).wf = true) : inR m = true := by
  simp only [Lit.wf, IntKind.min, IntKind.max, IntKind.signed, IntKind.bits, Bool.and_eq_true, decide_eq_true_eq] at h
  simp only [inR, Bool.and_eq_true, decide_eq_true_eq]
  constructor <;> simp_all
theorem add_none {b o i : Nat} : Addr.add ⟨b, o, none⟩ i = ⟨b, o + i, none⟩ := by
  unfold Addr.add
  split
  · rename_i h; simp_all
  · rfl
theorem open_recs {t e k fuel : Nat} {cs : List Value} {x : DataW H × List MemPlace} (ht : TP.underlying t = some (.slice e)) (hk : TP.cellsOf e = k)
    (hel : ∀ n cs x, DataW.trod enc TP W 0 (fun _ => true) true n e cs = some x → ∃ ms : List Int, cs = ms.map (fun m => Value.int .i64 m) ∧ ms.length = k ∧ ∀ m ∈ ms, inR m = true)
    (h : DataW.trod enc TP W 0 (fun _ => true) true fuel t cs = some x) (hsp : ∀ a len cap, cs = [.slice (some a) len cap] → a.spot = none) :
    ∃ rows : List (List Int), (∀ r ∈ rows, r.length = k ∧ ∀ m ∈ r, inR m = true) ∧ ∃ v, cs = [v] ∧ PRel (fun _ => False) W (.sl (rows.map fun r => r.map iv)) v := by
  rcases Go.Deep.open_slice ht h with ⟨rfl, _⟩ | ⟨a, len, cap, m, n, D, Pl, rfl, _, hl, hm, hmm, _, hi⟩
  · exact ⟨[], by simp, _, rfl, .nil⟩
  · have hs := hsp a len cap rfl
    obtain ⟨b, o, sp⟩ := a
    dsimp only at hs; subst hs
    simp only [if_true] at hmm
    subst hmm
    obtain ⟨F, hF⟩ := Go.Deep.choose_lt (α := List Int) (n := m) (p := fun i ms => W.cells? 0 (Addr.add ⟨b, o, none⟩ (i * k)) k = some (ms.map fun m => Value.int .i64 m) ∧ ms.length = k ∧ ∀ m ∈ ms, inR m = true) (fun i h1 => by
      obtain ⟨cs', h2, h3⟩ := hi i h1
      obtain ⟨ms, rfl, h4, h5⟩ := hel _ _ _ h3
      rw [hk] at h2
      exact ⟨ms, h2, h4, h5⟩)
    refine ⟨(List.range len).map F, fun r hr => ?_, _, rfl, prel_rows (k := k) (by simp) hl (fun r hr => ?_) (fun i r j m hr hm => ?_)⟩
    · obtain ⟨i, h1, rfl⟩ := List.mem_map.1 hr
      exact (hF i (by have := List.mem_range.1 h1; omega)).2
    · obtain ⟨i, h1, rfl⟩ := List.mem_map.1 hr
      exact (hF i (by have := List.mem_range.1 h1; omega)).2.1
    · simp only [List.getElem?_map, Option.map_eq_some_iff] at hr
      obtain ⟨i', h1, rfl⟩ := hr
      have hlt : i < len := by
        have := (List.getElem?_eq_some_iff.1 h1).1; simpa using this
      have e : i' = i := by
        rw [List.getElem?_range hlt] at h1; exact (Option.some.inj h1).symm
      subst e
      obtain ⟨h2, h3, _⟩ := hF i' (by omega)
      obtain ⟨_, _, h4⟩ := World.cells?_some h2
      have hj : j < k := by rw [← h3]; exact (List.getElem?_eq_some_iff.1 hm).1
      have h5 := h4 j hj
      rw [List.getElem?_map, hm] at h5
      rw [add_none, add_none, Nat.add_assoc] at h5
      exact h5
theorem el3 (n : Nat) (cs : List Value) (x : DataW H × List MemPlace) (h : DataW.trod enc TP W 0 (fun _ => true) true n 3 cs = some x) : ∃ ms : List Int, cs = ms.map (fun m => Value.int .i64 m) ∧ ms.length = 1 ∧ ∀ m ∈ ms, inR m = true := by
  obtain ⟨m, rfl, _, hw⟩ := DataW.trod_int Go.Proofs.Try.underlying3 h
  exact ⟨[m], rfl, rfl, fun y hy => by rw [List.mem_singleton.1 hy]; exact inR_wf hw⟩
theorem cells3 : TP.cellsOf 3 = 1 := by kernel_rfl
theorem cells92 : TP.cellsOf 92 = 2 := by kernel_rfl
theorem cells56 : TP.cellsOf 56 = 2 := by kernel_rfl
theorem cells78 : TP.cellsOf 78 = 5 := by kernel_rfl
theorem cells25 : TP.cellsOf 25 = 6 := by kernel_rfl
theorem cells22 : TP.cellsOf 22 = 1 := by kernel_rfl
theorem cells23 : TP.cellsOf 23 = 1 := by kernel_rfl
theorem one_of {cs : List Value} {j : Nat} {ms : List Int} (h1 : (cs.drop j).take 1 = ms.map (fun m => Value.int .i64 m)) (h2 : ms.length = 1) (h3 : ∀ m ∈ ms, inR m = true) : ∃ m, cs[j]? = some (.int .i64 m) ∧ inR m = true := by
  obtain ⟨m, rfl⟩ := List.length_eq_one_iff.1 h2
  refine ⟨m, ?_, h3 m (by simp)⟩
  have h := congrArg (fun l => l[0]?) h1
  simpa using h
theorem at3 {n j : Nat} {cs : List Value} {x : DataW H × List MemPlace} (h : DataW.trod enc TP W 0 (fun _ => true) true n 3 ((cs.drop j).take 1) = some x) : ∃ m, cs[j]? = some (.int .i64 m) ∧ inR m = true := by
  obtain ⟨ms, h1, h2, h3⟩ := el3 _ _ _ h
  exact one_of h1 h2 h3
theorem two_struct {e n : Nat} {f0 f1 : Field} {cs : List Value} {x : DataW H × List MemPlace} (he : TP.underlying e = some (.struct #[f0, f1])) (hc : TP.cellsOf e = 2) (h0 : f0.type = 3 ∧ f0.offset = 0) (h1 : f1.type = 3 ∧ f1.offset = 1)
    (h : DataW.trod enc TP W 0 (fun _ => true) true n e cs = some x) : ∃ ms : List Int, cs = ms.map (fun m => Value.int .i64 m) ∧ ms.length = 2 ∧ ∀ m ∈ ms, inR m = true := by
  obtain ⟨xs, n', _, _, hl, hxs, hf⟩ := DataW.trod_struct he h
  have hxs : xs.length = 2 := hxs
  match xs, hxs with
  | [y0, y1], _ =>
    have g0 := hf 0 f0 rfl
    have g1 := hf 1 f1 rfl
    rw [h0.1, h0.2, cells3] at g0
    rw [h1.1, h1.2, cells3] at g1
    obtain ⟨a, ha, wa⟩ := at3 g0
    obtain ⟨b, hb, wb⟩ := at3 g1
    rw [hc] at hl
    match cs, hl with
    | [c0, c1], _ =>
      simp only [List.getElem?_cons_zero, Option.some.injEq] at ha
      simp only [List.getElem?_cons_succ, List.getElem?_cons_zero, Option.some.injEq] at hb
      subst ha hb
      exact ⟨[a, b], rfl, rfl, fun y hy => by simp at hy; rcases hy with rfl | rfl <;> assumption⟩
theorem el92 (n : Nat) (cs : List Value) (x : DataW H × List MemPlace) (h : DataW.trod enc TP W 0 (fun _ => true) true n 92 cs = some x) : ∃ ms : List Int, cs = ms.map (fun m => Value.int .i64 m) ∧ ms.length = 2 ∧ ∀ m ∈ ms, inR m = true :=
  two_struct Go.Proofs.Try.underlying92 cells92 ⟨rfl, rfl⟩ ⟨rfl, rfl⟩ h
theorem four_struct {e n : Nat} {f0 f1 f2 f3 : Field} {cs : List Value} {x : DataW H × List MemPlace} (he : TP.underlying e = some (.struct #[f0, f1, f2, f3])) (hc : TP.cellsOf e = 5) (h0 : f0.type = 3 ∧ f0.offset = 0) (h1 : f1.type = 3 ∧ f1.offset = 1) (h2 : f2.type = 56 ∧ f2.offset = 2) (h3 : f3.type = 3 ∧ f3.offset = 4)
    (h : DataW.trod enc TP W 0 (fun _ => true) true n e cs = some x) : ∃ ms : List Int, cs = ms.map (fun m => Value.int .i64 m) ∧ ms.length = 5 ∧ ∀ m ∈ ms, inR m = true := by
  obtain ⟨xs, n', _, _, hl, hxs, hf⟩ := DataW.trod_struct he h
  have hxs : xs.length = 4 := hxs
  match xs, hxs with
  | [y0, y1, y2, y3], _ =>
    have g0 := hf 0 f0 rfl
    have g1 := hf 1 f1 rfl
    have g2 := hf 2 f2 rfl
    have g3 := hf 3 f3 rfl
    rw [h0.1, h0.2, cells3] at g0
    rw [h1.1, h1.2, cells3] at g1
    rw [h2.1, h2.2, cells56] at g2
    rw [h3.1, h3.2, cells3] at g3
    obtain ⟨a, ha, wa⟩ := at3 g0
    obtain ⟨b, hb, wb⟩ := at3 g1
    obtain ⟨ms, k1, k2, k3⟩ := two_struct Go.Proofs.Try.underlying56 cells56 ⟨rfl, rfl⟩ ⟨rfl, rfl⟩ g2
    obtain ⟨c, hc', wc⟩ := at3 g3
    rw [hc] at hl
    match cs, hl, ms, k2 with
    | [c0, c1, c2, c3, c4], _, [m0, m1], _ =>
      simp at ha hb hc' k1
      obtain ⟨rfl, rfl⟩ := k1
      subst ha hb hc'
      exact ⟨[a, b, m0, m1, c], rfl, rfl, fun y hy => by
        simp at hy
        rcases hy with rfl | rfl | rfl | rfl | rfl
        · exact wa
        · exact wb
        · exact k3 _ (by simp)
        · exact k3 _ (by simp)
        · exact wc⟩
theorem el78 (n : Nat) (cs : List Value) (x : DataW H × List MemPlace) (h : DataW.trod enc TP W 0 (fun _ => true) true n 78 cs = some x) : ∃ ms : List Int, cs = ms.map (fun m => Value.int .i64 m) ∧ ms.length = 5 ∧ ∀ m ∈ ms, inR m = true :=
  four_struct Go.Proofs.Try.underlying78 cells78 ⟨rfl, rfl⟩ ⟨rfl, rfl⟩ ⟨rfl, rfl⟩ ⟨rfl, rfl⟩ h
theorem sl_at {t j n : Nat} {cs : List Value} {x : DataW H × List MemPlace} (h : DataW.trod enc TP W 0 (fun _ => true) true n t ((cs.drop j).take 1) = some x) (hj : j < cs.length) : ∃ v, cs[j]? = some v ∧ DataW.trod enc TP W 0 (fun _ => true) true n t [v] = some x := by
  refine ⟨cs[j], List.getElem?_eq_getElem hj, ?_⟩
  rw [List.drop_eq_getElem_cons hj] at h
  exact h
def AccIn (a : Acc) : Prop := (inR a.last = true ∧ inR a.interest = true ∧ inR a.bond = true ∧ inR a.purse = true) ∧ (∀ r ∈ a.rates, inR r.day = true ∧ inR r.pence = true) ∧ ∀ e ∈ a.entries, inR e.kind = true ∧ inR e.day = true ∧ inR e.lo = true ∧ inR e.hi = true ∧ inR e.pence = true
def mkR (l : List Int) : Rate := ⟨l.getD 0 0, l.getD 1 0⟩
def mkE (l : List Int) : Entry := ⟨l.getD 0 0, l.getD 1 0, l.getD 2 0, l.getD 3 0, l.getD 4 0⟩
theorem encR_mk {l : List Int} (h : l.length = 2) : encR (mkR l) = l.map iv := by
  match l, h with
  | [a, b], _ => rfl
theorem encE_mk {l : List Int} (h : l.length = 5) : encE (mkE l) = l.map iv := by
  match l, h with
  | [a, b, c, d, e], _ => rfl
theorem six_struct {e n : Nat} {f0 f1 f2 f3 f4 f5 : Field} {cs : List Value} {x : DataW H × List MemPlace} (he : TP.underlying e = some (.struct #[f0, f1, f2, f3, f4, f5])) (hc : TP.cellsOf e = 6) (h0 : f0.type = 3 ∧ f0.offset = 0) (h1 : f1.type = 3 ∧ f1.offset = 1) (h2 : f2.type = 3 ∧ f2.offset = 2) (h3 : f3.type = 3 ∧ f3.offset = 3) (h4 : f4.type = 22 ∧ f4.offset = 4) (h5 : f5.type = 23 ∧ f5.offset = 5)
    (hs4 : ∀ b len cap, cs[4]? = some (.slice (some b) len cap) → b.spot = none) (hs5 : ∀ b len cap, cs[5]? = some (.slice (some b) len cap) → b.spot = none)
    (h : DataW.trod enc TP W 0 (fun _ => true) true n e cs = some x) : ∃ a : Acc, AccIn a ∧ ∀ θ, ARel θ (fun _ => False) W (avA a) (.agg cs.toArray) := by
  obtain ⟨xs, n', _, _, hl, hxs, hf⟩ := DataW.trod_struct he h
  have hxs : xs.length = 6 := hxs
  match xs, hxs with
  | [y0, y1, y2, y3, y4, y5], _ =>
    have g0 := hf 0 f0 rfl
    have g1 := hf 1 f1 rfl
    have g2 := hf 2 f2 rfl
    have g3 := hf 3 f3 rfl
    have g4 := hf 4 f4 rfl
    have g5 := hf 5 f5 rfl
    rw [h0.1, h0.2, cells3] at g0
    rw [h1.1, h1.2, cells3] at g1
    rw [h2.1, h2.2, cells3] at g2
    rw [h3.1, h3.2, cells3] at g3
    rw [h4.1, h4.2, cells22] at g4
    rw [h5.1, h5.2, cells23] at g5
    obtain ⟨a, ha, wa⟩ := at3 g0
    obtain ⟨b, hb, wb⟩ := at3 g1
    obtain ⟨c, hc', wc⟩ := at3 g2
    obtain ⟨d, hd, wd⟩ := at3 g3
    rw [hc] at hl
    obtain ⟨v4, hv4, k4⟩ := sl_at g4 (by omega)
    obtain ⟨v5, hv5, k5⟩ := sl_at g5 (by omega)
    obtain ⟨rs, r1, v4', r2, r3⟩ := open_recs Go.Proofs.Try.underlying22 cells92 el92 k4 (fun b len cap e => hs4 b len cap (by rw [hv4, List.head_eq_of_cons_eq e]))
    obtain ⟨es, e1, v5', e2, e3⟩ := open_recs Go.Proofs.Try.underlying23 cells78 el78 k5 (fun b len cap e => hs5 b len cap (by rw [hv5, List.head_eq_of_cons_eq e]))
    have r2 := List.head_eq_of_cons_eq r2
    have e2 := List.head_eq_of_cons_eq e2
    subst r2 e2
    match cs, hl with
    | [c0, c1, c2, c3, c4, c5], _ =>
      simp at ha hb hc' hd hv4 hv5
      subst ha hb hc' hd hv4 hv5
      have hrs : (rs.map mkR).map encR = rs.map fun r => r.map iv := by
        rw [List.map_map]; exact List.map_congr_left fun r hr => encR_mk (r1 r hr).1
      have hes : (es.map mkE).map encE = es.map fun r => r.map iv := by
        rw [List.map_map]; exact List.map_congr_left fun r hr => encE_mk (e1 r hr).1
      refine ⟨⟨a, b, c, d, rs.map mkR, es.map mkE⟩, ⟨⟨wa, wb, wc, wd⟩, fun r hr => ?_, fun e he => ?_⟩, fun θ => .agg _ _ rfl (fun i hi => ?_) (fun i x hx => ?_)⟩
      · obtain ⟨l, hl, rfl⟩ := List.mem_map.1 hr
        obtain ⟨h1, h2⟩ := r1 l hl
        match l, h1 with
        | [p, q], _ => exact ⟨h2 _ (by simp [mkR]), h2 _ (by simp [mkR])⟩
      · obtain ⟨l, hl, rfl⟩ := List.mem_map.1 he
        obtain ⟨h1, h2⟩ := e1 l hl
        match l, h1 with
        | [p, q, r, s, u], _ => exact ⟨h2 _ (by simp [mkE]), h2 _ (by simp [mkE]), h2 _ (by simp [mkE]), h2 _ (by simp [mkE]), h2 _ (by simp [mkE])⟩
      · have hr := r3.oneCell
        have he := e3.oneCell
        match i, hi with
        | 0, _ => rfl
        | 1, _ => rfl
        | 2, _ => rfl
        | 3, _ => rfl
        | 4, _ => exact hr
        | 5, _ => exact he
      · match i, hx with
        | 0, hx => cases hx; exact .p _ _ (.val _ rfl)
        | 1, hx => cases hx; exact .p _ _ (.val _ rfl)
        | 2, hx => cases hx; exact .p _ _ (.val _ rfl)
        | 3, hx => cases hx; exact .p _ _ (.val _ rfl)
        | 4, hx => cases hx; dsimp only; rw [hrs]; exact .p _ _ r3
        | 5, hx => cases hx; dsimp only; rw [hes]; exact .p _ _ e3
theorem types25 : TP.cellTypes TP.depth 25 = some [3, 3, 3, 3, 22, 23] := by kernel_rfl
theorem open_acc {base : Nat} {v : Value} {d : DataW H} {p : List MemPlace} (hv : Value.okWide TP W .any base 25 v) (h : DataW.Trod enc TP W 0 (fun _ => true) true 25 v d p) : ∃ a : Acc, AccIn a ∧ ∀ θ, ARel θ (fun _ => False) W (avA a) v := by
  simp only [Value.okWide, Go.Proofs.Try.underlying25] at hv
  obtain ⟨cs, rfl, _, ts, hts, _, hall⟩ := hv
  rw [types25] at hts
  cases hts
  obtain ⟨n, hn⟩ := h
  obtain ⟨l⟩ := cs
  refine six_struct Go.Proofs.Try.underlying25 cells25 ⟨rfl, rfl⟩ ⟨rfl, rfl⟩ ⟨rfl, rfl⟩ ⟨rfl, rfl⟩ ⟨rfl, rfl⟩ ⟨rfl, rfl⟩ (fun b len cap hb => ?_) (fun b len cap hb => ?_) hn
  · obtain ⟨u, hu, hok⟩ := hall 4 _ (by simpa using hb)
    simp at hu; subst hu
    simp only [Go.Proofs.Try.underlying22, Cell.okWide, Cell.ok, World.has] at hok
    exact hok.2.2.2.1
  · obtain ⟨u, hu, hok⟩ := hall 5 _ (by simpa using hb)
    simp at hu; subst hu
    simp only [Go.Proofs.Try.underlying23, Cell.okWide, Cell.ok, World.has] at hok
    exact hok.2.2.2.1
end
end AM.Try
end
/- The law of plays. -/
section
namespace AM.Try
open Go AM AM.Duty
open Nat renaming reduceLT → sA, reduceAdd → sB, reduceMul → sC, reduceSub → sD, reduceLeDiff → sE, reduceEqDiff → sF, reduceBEq → sG
open Int renaming reduceAdd → sH, reduceSub → sI, reduceMul → sJ, reduceLT → sK, reduceLE → sL, reduceNeg → sM, reduceToNat → sN, reduceEq → sO
set_option maxHeartbeats 8000000
set_option maxRecDepth 100000
theorem c24 (a : Acc) (hl1 : a.rates.length < 1000000) (hl2 : a.entries.length < 1000000) : PCall Go.Proofs.Try.prog 24 [avA a] (i64 (faultS a)) := by
  refine pcall_mk (v := []) (q := []) (N := 5) (rs := [.tmp 2]) Go.Proofs.Try.func24 rfl rfl rfl rfl rfl ?_
  refine awp_seq_k fun K1 hK1 => ?_
  refine awp_ops ?_
  simp (disch := omega) only [amL, sA, ↓reduceIte]
  refine hK1 _ ?_
  refine awp_seq_k fun K2 hK2 => ?_
  refine awp_ops ?_
  simp (disch := omega) only [amL, amT, sA, sB, sF, ↓reduceIte]
  repeat' first | (refine EC_intro (by kernel_rfl) rfl (c61 a hl1 hl2) (by first | exact .inl rfl | exact .inr (.inl rfl)) ?_ ; simp (disch := omega) only [amL, sA, ↓reduceIte])
  refine hK2 _ ?_
  refine awp_ret ?_
  try simp (disch := omega) only [amL, ↓reduceIte]
  skip
theorem debts_len {a : Acc} {t paid : List Int} : ∀ {c day : Nat} {w : Wk}, (debtsF a t paid c day w).1.length = c
  | 0, _, _ => rfl
  | c + 1, day, w => by simp only [debtsF, List.length_cons, debts_len]
theorem in_of {a : Acc} (h : AccIn a) : ∀ e ∈ a.entries, inR e.lo = true ∧ inR e.hi = true := fun e he => ⟨(h.2.2 e he).2.2.1, (h.2.2 e he).2.2.2.1⟩
end AM.Try
end
/- The laws' conditions; the reference: truths. -/
section
namespace AM.Try
open Go AM AM.Duty
open Nat renaming reduceLT → sA, reduceAdd → sB, reduceMul → sC, reduceSub → sD, reduceLeDiff → sE, reduceEqDiff → sF, reduceBEq → sG
open Int renaming reduceAdd → sH, reduceSub → sI, reduceMul → sJ, reduceLT → sK, reduceLE → sL, reduceNeg → sM, reduceToNat → sN, reduceEq → sO
set_option maxHeartbeats 8000000
set_option maxRecDepth 100000
def thinS (a : Acc) : Bool := decide (a.rates.length ≤ 7) && decide (a.entries.length ≤ 11)
theorem c19t (a : Acc) : PCall Go.Proofs.Try.prog 19 [avA a] (bl (thinS a)) := c19 a
theorem thin_len {a : Acc} (h : thinS a = true) : a.rates.length ≤ 7 ∧ a.entries.length ≤ 11 := by simpa [thinS] using h
end AM.Try
end
/- The reference: all truths. -/
section
namespace AM.Try
open Go AM AM.Duty
open Nat renaming reduceLT → sA, reduceAdd → sB, reduceMul → sC, reduceSub → sD, reduceLeDiff → sE, reduceEqDiff → sF, reduceBEq → sG
open Int renaming reduceAdd → sH, reduceSub → sI, reduceMul → sJ, reduceLT → sK, reduceLE → sL, reduceNeg → sM, reduceToNat → sN, reduceEq → sO
set_option maxHeartbeats 8000000
set_option maxRecDepth 100000
def truthsTo (a : Acc) (k : Nat) : List (List Int) := ((List.range k).map (nthT a)).filter (isTruth a)
def truthsR (a : Acc) : List (List Int) := truthsTo a (manyT a)
end AM.Try
end
/- The reference: the bounds of a day. -/
section
namespace AM.Try
open Go AM AM.Duty
open Nat renaming reduceLT → sA, reduceAdd → sB, reduceMul → sC, reduceSub → sD, reduceLeDiff → sE, reduceEqDiff → sF, reduceBEq → sG
open Int renaming reduceAdd → sH, reduceSub → sI, reduceMul → sJ, reduceLT → sK, reduceLE → sL, reduceNeg → sM, reduceToNat → sN, reduceEq → sO
set_option maxHeartbeats 8000000
set_option maxRecDepth 100000
def debtOn (a : Acc) (day : Nat) (t : List Int) : Int := (debtsS a t []).1.getD day 0
def bndStep (a : Acc) (day : Nat) (p : Int × Int) (t : List Int) : Int × Int := (if debtOn a day t < p.1 then debtOn a day t else p.1, if p.2 < debtOn a day t then debtOn a day t else p.2)
def bndR (a : Acc) (day : Nat) (l : List (List Int)) : Int × Int := l.foldl (bndStep a day) (1099511627776, -1099511627776)
theorem debts_full {a : Acc} (t : List Int) (paid : List Int) : (debtsS a t paid).1.length = (a.last + 1).toNat := by unfold debtsS; rw [debts_len]
end AM.Try
end
/- Plain laws: the program's truths are the reference's. -/
section
namespace AM.Try
open Go AM AM.Duty
open Nat renaming reduceLT → sA, reduceAdd → sB, reduceMul → sC, reduceSub → sD, reduceLeDiff → sE, reduceEqDiff → sF, reduceBEq → sG
open Int renaming reduceAdd → sH, reduceSub → sI, reduceMul → sJ, reduceLT → sK, reduceLE → sL, reduceNeg → sM, reduceToNat → sN, reduceEq → sO
theorem mem_listsN {f : Int → List (List Int)} {x : List Int} : ∀ {c : Nat} {n : Int}, x ∈ listsN f c n ↔ ∃ k : Nat, k < c ∧ x ∈ f (n + k)
  | 0, n => by simp [listsN]
  | c + 1, n => by
    simp only [listsN, List.mem_append, mem_listsN (c := c)]
    constructor
    · rintro (h | ⟨k, h1, h2⟩)
      · exact ⟨0, by omega, by simpa using h⟩
      · exact ⟨k + 1, by omega, by rw [show n + ((k + 1 : Nat) : Int) = n + 1 + k by omega]; exact h2⟩
    · rintro ⟨k, h1, h2⟩
      cases k with
      | zero => left; simpa using h2
      | succ k => right; exact ⟨k, by omega, by rw [show n + 1 + (k : Int) = n + ((k + 1 : Nat) : Int) by omega]; exact h2⟩
theorem mem_lists : ∀ {es : List Entry} {p x : List Int}, x ∈ listsP es p ↔ ∃ y, x = p ++ y ∧ listedP es y = true
  | [], p, x => by
    simp only [listsP, List.mem_singleton]
    constructor
    · rintro rfl; exact ⟨[], by simp, rfl⟩
    · rintro ⟨y, rfl, h⟩
      cases y with
      | nil => simp
      | cons u us => cases h
  | e :: es, p, x => by
    simp only [listsP, mem_listsN, mem_lists (es := es)]
    constructor
    · rintro ⟨k, h1, y, rfl, h2⟩
      refine ⟨(e.lo + k) :: y, by simp, ?_⟩
      simp only [listedP, inB, h2, Bool.and_true, Bool.and_eq_true, decide_eq_true_eq]
      omega
    · rintro ⟨y, rfl, h⟩
      cases y with
      | nil => cases h
      | cons u us =>
        simp only [listedP, inB, Bool.and_eq_true, decide_eq_true_eq] at h
        refine ⟨(u - e.lo).toNat, by omega, us, ?_, h.2⟩
        rw [show e.lo + ((u - e.lo).toNat : Int) = u by omega]
        simp
theorem nth_listed : ∀ {es : List Entry} {n : Int}, (∀ e ∈ es, e.lo ≤ e.hi) → listedP es (nthS es n) = true
  | [], _, _ => rfl
  | e :: es, n, h => by
    have h1 := h e (by simp)
    have h3 := nth_listed (es := es) (n := n / (e.hi - e.lo + 1)) fun x hx => h x (by simp [hx])
    simp only [nthS, listedP, h3, Bool.and_true, inB, Bool.and_eq_true, decide_eq_true_eq]
    have h2 := mod_bound (m := n) (s := e.hi - e.lo + 1) (by omega)
    omega
theorem listed_nth : ∀ {es : List Entry} {y : List Int}, (∀ e ∈ es, e.lo ≤ e.hi) → listedP es y = true → ∃ n : Nat, n < many es ∧ nthS es n = y
  | [], [], _, _ => ⟨0, by simp [many], rfl⟩
  | [], _ :: _, _, h => by cases h
  | _ :: _, [], _, h => by cases h
  | e :: es, u :: us, hlo, h => by
    simp only [listedP, inB, Bool.and_eq_true, decide_eq_true_eq] at h
    obtain ⟨n, h1, h2⟩ := listed_nth (fun x hx => hlo x (by simp [hx])) h.2
    have hs : ((e.hi - e.lo + 1).toNat : Int) = e.hi - e.lo + 1 := Int.toNat_of_nonneg (by omega)
    generalize hS : (e.hi - e.lo + 1).toNat = s at hs
    have ha : (u - e.lo).toNat < s := by omega
    have hu : ((u - e.lo).toNat : Int) = u - e.lo := Int.toNat_of_nonneg (by omega)
    generalize (u - e.lo).toNat = w at ha hu
    refine ⟨w + s * n, ?_, ?_⟩
    · show _ < (e.hi - e.lo + 1).toNat * many es
      rw [hS]
      have : s * (n + 1) ≤ s * many es := Nat.mul_le_mul_left _ h1
      rw [Nat.mul_add] at this; omega
    · simp only [nthS]
      rw [← hs]
      have e1 : ((w + s * n : Nat) : Int) % (s : Int) = w := by
        rw [← Int.natCast_emod, Nat.add_mul_mod_self_left, Nat.mod_eq_of_lt ha]
      have e2 : ((w + s * n : Nat) : Int) / (s : Int) = n := by
        rw [← Int.natCast_ediv, Nat.add_mul_div_left _ _ (by omega), Nat.div_eq_of_lt ha, Nat.zero_add]
      rw [e1, e2, h2, hu, show e.lo + (u - e.lo) = u by omega]
theorem lo_le {a : Acc} (hf : faultS a = 0) : ∀ e ∈ a.entries, e.lo ≤ e.hi := fun e he => (isEntry_small (List.all_eq_true.1 (fault_zero hf).2.2.2.2.1 e he)).2.1
theorem many_T {a : Acc} (hf : faultS a = 0) : manyT a = many a.entries := by
  have h := sizes_many a.entries 1 (fun e he => by have := lo_le hf e he; omega)
  unfold manyT sizes; rw [h]; omega
theorem mem_truths {a : Acc} (hf : faultS a = 0) {x : List Int} : x ∈ truthsL a ↔ x ∈ truthsR a := by
  unfold truthsL truthsR truthsTo
  rw [List.mem_filter, List.mem_filter, (playS_ask hf x).1, mem_lists, List.mem_map]
  refine and_congr ?_ Iff.rfl
  constructor
  · rintro ⟨y, rfl, h⟩
    obtain ⟨n, h1, h2⟩ := listed_nth (lo_le hf) h
    exact ⟨n, List.mem_range.2 (by rw [many_T hf]; exact h1), by simpa [nthT] using h2⟩
  · rintro ⟨n, _, rfl⟩
    exact ⟨nthT a n, by simp, nth_listed (lo_le hf)⟩
theorem possible_eq {a : Acc} : possibleS a = !(truthsR a).isEmpty := by
  unfold truthsR truthsTo possibleS
  rw [Bool.eq_iff_iff, List.any_eq_true, Bool.not_eq_true', List.isEmpty_eq_false_iff]
  constructor
  · rintro ⟨k, h1, h2⟩ h
    have : nthT a k ∈ ((List.range (manyT a)).map (nthT a)).filter (isTruth a) := List.mem_filter.2 ⟨List.mem_map.2 ⟨k, h1, rfl⟩, h2⟩
    rw [h] at this; cases this
  · intro h
    obtain ⟨x, hx⟩ := List.exists_mem_of_ne_nil _ h
    obtain ⟨h1, h2⟩ := List.mem_filter.1 hx
    obtain ⟨k, h3, rfl⟩ := List.mem_map.1 h1
    exact ⟨k, h3, h2⟩
theorem truths_empty {a : Acc} (hf : faultS a = 0) : (truthsL a).isEmpty = (truthsR a).isEmpty := by
  rw [Bool.eq_iff_iff, List.isEmpty_iff, List.isEmpty_iff]
  constructor <;> intro h <;> refine List.eq_nil_iff_forall_not_mem.2 fun x hx => ?_
  · have := (mem_truths hf).2 hx; rw [h] at this; cases this
  · have := (mem_truths hf).1 hx; rw [h] at this; cases this
end AM.Try
end
/- Plain laws: bounds and whether the bond is kept, of the same truths. -/
section
namespace AM.Try
open Go AM AM.Duty
open Nat renaming reduceLT → sA, reduceAdd → sB, reduceMul → sC, reduceSub → sD, reduceLeDiff → sE, reduceEqDiff → sF, reduceBEq → sG
open Int renaming reduceAdd → sH, reduceSub → sI, reduceMul → sJ, reduceLT → sK, reduceLE → sL, reduceNeg → sM, reduceToNat → sN, reduceEq → sO
theorem min_spec : ∀ (ds : List Int) (x : Int), (ds.foldl min x = x ∨ ds.foldl min x ∈ ds) ∧ ds.foldl min x ≤ x ∧ ∀ d ∈ ds, ds.foldl min x ≤ d
  | [], x => ⟨.inl rfl, Int.le_refl _, fun d h => by cases h⟩
  | d :: ds, x => by
    obtain ⟨h1, h2, h3⟩ := min_spec ds (min x d)
    simp only [List.foldl_cons]
    generalize ds.foldl min (min x d) = m at *
    refine ⟨?_, by omega, fun y hy => ?_⟩
    · rcases h1 with h | h
      · by_cases e : x ≤ d
        · left; omega
        · right; rw [h, show min x d = d by omega]; simp
      · right; simp [h]
    · rcases List.mem_cons.1 hy with rfl | hy
      · omega
      · exact h3 y hy
theorem max_spec : ∀ (ds : List Int) (x : Int), (ds.foldl max x = x ∨ ds.foldl max x ∈ ds) ∧ x ≤ ds.foldl max x ∧ ∀ d ∈ ds, d ≤ ds.foldl max x
  | [], x => ⟨.inl rfl, Int.le_refl _, fun d h => by cases h⟩
  | d :: ds, x => by
    obtain ⟨h1, h2, h3⟩ := max_spec ds (max x d)
    simp only [List.foldl_cons]
    generalize ds.foldl max (max x d) = m at *
    refine ⟨?_, by omega, fun y hy => ?_⟩
    · rcases h1 with h | h
      · by_cases e : d ≤ x
        · left; omega
        · right; rw [h, show max x d = d by omega]; simp
      · right; simp [h]
    · rcases List.mem_cons.1 hy with rfl | hy
      · omega
      · exact h3 y hy
theorem bnd_fold {a : Acc} {day : Nat} : ∀ (l : List (List Int)) (x y : Int), l.foldl (bndStep a day) (x, y) = ((l.map (debtOn a day)).foldl min x, (l.map (debtOn a day)).foldl max y)
  | [], _, _ => rfl
  | t :: l, x, y => by
    have e : bndStep a day (x, y) t = (min x (debtOn a day t), max y (debtOn a day t)) := by
      simp only [bndStep, Prod.mk.injEq]
      constructor <;> split <;> omega
    simp only [List.foldl_cons, List.map_cons, e]
    exact bnd_fold l _ _
theorem zip_getD {f : Int → Int → Int} {x y : List Int} {k : Nat} (hx : k < x.length) (hy : k < y.length) : (List.zipWith f x y).getD k 0 = f (x.getD k 0) (y.getD k 0) := by
  simp only [List.getD_eq_getElem?_getD, List.getElem?_zipWith, List.getElem?_eq_getElem hx, List.getElem?_eq_getElem hy, Option.getD_some]
theorem pad_getD {l : List Int} {k : Nat} (h : k < l.length) : (pad l).getD k 0 = l.getD k 0 := by
  unfold pad; rw [List.getD_eq_getElem?_getD, List.getElem?_append_left h, List.getD_eq_getElem?_getD]
theorem fold_on {a : Acc} {k : Nat} (hk : k < 12) (g : List Int → Int) : ∀ (l : List (List Int)) (s : B30), s.first = false → s.lo.length = 12 → s.hi.length = 12 → (∀ t ∈ l, (pad (playS a t [] true).1).length = 12 ∧ (pad (playS a t [] true).1).getD k 0 = g t) →
    ((fold30 a s l).lo.getD k 0, (fold30 a s l).hi.getD k 0) = ((l.map g).foldl min (s.lo.getD k 0), (l.map g).foldl max (s.hi.getD k 0))
  | [], s, _, _, _, _ => rfl
  | t :: l, s, hf, h1, h2, h => by
    obtain ⟨h3, h4⟩ := h t (by simp)
    show ((fold30 a (bst30 s (pad (playS a t [] true).1)) l).lo.getD k 0, (fold30 a (bst30 s (pad (playS a t [] true).1)) l).hi.getD k 0) = _
    have e1 : (bst30 s (pad (playS a t [] true).1)).lo = List.zipWith min s.lo (pad (playS a t [] true).1) := by simp [bst30, hf]
    have e2 : (bst30 s (pad (playS a t [] true).1)).hi = List.zipWith max s.hi (pad (playS a t [] true).1) := by simp [bst30, hf]
    have := fold_on hk g l (bst30 s (pad (playS a t [] true).1)) rfl (by rw [e1]; simp [h1, h3]) (by rw [e2]; simp [h2, h3]) fun x hx => h x (by simp [hx])
    rw [e1, e2, zip_getD (by omega) (by omega), zip_getD (by omega) (by omega), h4] at this
    simpa using this
theorem truth_debt {a : Acc} (hf : faultS a = 0) {t : List Int} (ht : t ∈ truthsL a) : (playS a t [] true).1 = (debtsS a t []).1 := by
  have h := (List.mem_filter.1 ht).2
  have h1 := playS_ask hf t
  rw [h1.1] at h
  exact h1.2 h
theorem last_in {a : Acc} (hf : faultS a = 0) : 0 ≤ a.last ∧ a.last ≤ 11 := by
  obtain ⟨_, _, z3, _, _, _⟩ := fault_zero hf
  simp only [inB, Bool.and_eq_true, decide_eq_true_eq] at z3
  omega
theorem debt_pad {a : Acc} (hf : faultS a = 0) {t : List Int} (ht : t ∈ truthsL a) {k : Nat} (hk : k < (a.last + 1).toNat) : (pad (playS a t [] true).1).length = 12 ∧ (pad (playS a t [] true).1).getD k 0 = debtOn a k t := by
  have h1 := last_in hf
  have e := truth_debt hf ht
  have hl := debts_full (a := a) t []
  rw [e]
  refine ⟨pad_len (by omega), ?_⟩
  rw [pad_getD (by omega)]; rfl
theorem debt_small {a : Acc} (hf : faultS a = 0) {t : List Int} (ht : t ∈ truthsL a) {k : Nat} (hk : k < (a.last + 1).toNat) : -100000000000 ≤ debtOn a k t ∧ debtOn a k t ≤ 100000000000 := by
  have h := playS_in (paid := []) (ask := true) (truth_fit hf ht)
  rw [truth_debt hf ht] at h
  have hl := debts_full (a := a) t []
  refine h _ ?_
  unfold debtOn
  rw [← List.getElem_eq_getD (h := by omega)]
  exact List.getElem_mem _
theorem bounds_eq {a : Acc} (hf : faultS a = 0) (hne : (truthsL a).isEmpty = false) {k : Nat} (hk : k < (a.last + 1).toNat) :
    ((fold30 a ⟨true, z12, z12⟩ (truthsL a)).lo.getD k 0, (fold30 a ⟨true, z12, z12⟩ (truthsL a)).hi.getD k 0) = bndR a k (truthsR a) := by
  have hl := last_in hf
  have hmem : ∀ x, x ∈ truthsL a ↔ x ∈ truthsR a := fun x => mem_truths hf
  have hsm : ∀ t ∈ truthsL a, -100000000000 ≤ debtOn a k t ∧ debtOn a k t ≤ 100000000000 := fun t ht => debt_small hf ht hk
  have hpd : ∀ t ∈ truthsL a, (pad (playS a t [] true).1).length = 12 ∧ (pad (playS a t [] true).1).getD k 0 = debtOn a k t := fun t ht => debt_pad hf ht hk
  generalize truthsR a = R at hmem
  generalize truthsL a = L at hmem hsm hpd hne
  cases L with
  | nil => cases hne
  | cons t l =>
    obtain ⟨h3, h4⟩ := hpd t (by simp)
    have e0 : fold30 a ⟨true, z12, z12⟩ (t :: l) = fold30 a ⟨false, pad (playS a t [] true).1, pad (playS a t [] true).1⟩ l := by
      show fold30 a (bst30 ⟨true, z12, z12⟩ (pad (playS a t [] true).1)) l = _
      congr 1
      simp only [bst30, if_true, B30.mk.injEq, true_and]
      refine ⟨?_, ?_⟩ <;> (refine List.ext_getElem? fun i => ?_; rw [List.getElem?_zipWith]; cases (pad (playS a t [] true).1)[i]? <;> simp)
    rw [e0, fold_on (by omega) (debtOn a k) l _ rfl h3 h3 (fun x hx => hpd x (by simp [hx])), h4]
    unfold bndR; rw [bnd_fold]
    obtain ⟨a1, a2, a3⟩ := min_spec (l.map (debtOn a k)) (debtOn a k t)
    obtain ⟨b1, b2, b3⟩ := max_spec (l.map (debtOn a k)) (debtOn a k t)
    obtain ⟨c1, c2, c3⟩ := min_spec (R.map (debtOn a k)) 1099511627776
    obtain ⟨d1, d2, d3⟩ := max_spec (R.map (debtOn a k)) (-1099511627776)
    generalize (l.map (debtOn a k)).foldl min (debtOn a k t) = m1 at *
    generalize (l.map (debtOn a k)).foldl max (debtOn a k t) = m2 at *
    generalize (R.map (debtOn a k)).foldl min 1099511627776 = m3 at *
    generalize (R.map (debtOn a k)).foldl max (-1099511627776) = m4 at *
    have inL : ∀ x, x ∈ l.map (debtOn a k) ∨ x = debtOn a k t → x ∈ R.map (debtOn a k) := fun x hx => by
      rcases hx with hx | rfl
      · obtain ⟨y, hy, rfl⟩ := List.mem_map.1 hx
        exact List.mem_map_of_mem ((hmem y).1 (by simp [hy]))
      · exact List.mem_map_of_mem ((hmem t).1 (by simp))
    have inR' : ∀ x, x ∈ R.map (debtOn a k) → m1 ≤ x ∧ x ≤ m2 ∧ -100000000000 ≤ x ∧ x ≤ 100000000000 := fun x hx => by
      obtain ⟨y, hy, rfl⟩ := List.mem_map.1 hx
      have hy := (hmem y).2 hy
      have hs := hsm y hy
      rcases List.mem_cons.1 hy with rfl | hy
      · exact ⟨a2, b2, hs⟩
      · exact ⟨a3 _ (List.mem_map_of_mem hy), b3 _ (List.mem_map_of_mem hy), hs⟩
    have g1 := inL m1 (a1.symm)
    have g2 := inL m2 (b1.symm)
    have k1 := inR' m1 g1
    have k2 := inR' m2 g2
    have l1 := c3 m1 g1
    have l2 := d3 m2 g2
    have l3 : m1 ≤ m3 := by
      rcases c1 with h | h
      · omega
      · exact (inR' m3 h).1
    have l4 : m4 ≤ m2 := by
      rcases d1 with h | h
      · omega
      · exact (inR' m4 h).2.1
    simp only [Prod.mk.injEq]
    omega
end AM.Try
end
/- Plain laws: whether the bond is kept. -/
section
namespace AM.Try
open Go AM AM.Duty
open Nat renaming reduceLT → sA, reduceAdd → sB, reduceMul → sC, reduceSub → sD, reduceLeDiff → sE, reduceEqDiff → sF, reduceBEq → sG
open Int renaming reduceAdd → sH, reduceSub → sI, reduceMul → sJ, reduceLT → sK, reduceLE → sL, reduceNeg → sM, reduceToNat → sN, reduceEq → sO
theorem boundsA_eq {a : Acc} (hf : faultS a = 0) : boundsA a = if (truthsR a).isEmpty = true then .tup [.p (.val (.slice none 0 0)), i64 9] else .tup [.p (.sl ((List.range (a.last + 1).toNat).map fun k => [iv (bndR a k (truthsR a)).1, iv (bndR a k (truthsR a)).2])), i64 0] := by
  unfold boundsA
  rw [if_pos hf, truths_empty hf]
  split
  · rfl
  · rename_i h
    have hne : (truthsL a).isEmpty = false := by rw [truths_empty hf]; simpa using h
    have e : (boundsL a).map (fun p => [iv p.1, iv p.2]) = (List.range (a.last + 1).toNat).map fun k => [iv (bndR a k (truthsR a)).1, iv (bndR a k (truthsR a)).2] := by
      unfold boundsL
      rw [List.map_map]
      refine List.map_congr_left fun k hk => ?_
      rw [← bounds_eq hf hne (List.mem_range.1 hk)]; rfl
    rw [e]
end AM.Try
end
/- Plain laws: payments; the search for the fewest. -/
section
namespace AM.Try
open Go AM AM.Duty
open Nat renaming reduceLT → sA, reduceAdd → sB, reduceMul → sC, reduceSub → sD, reduceLeDiff → sE, reduceEqDiff → sF, reduceBEq → sG
open Int renaming reduceAdd → sH, reduceSub → sI, reduceMul → sJ, reduceLT → sK, reduceLE → sL, reduceNeg → sM, reduceToNat → sN, reduceEq → sO
def Best (P : List Int → Bool) (lt : List Int → List Int → Bool) : Option (List Int) → Prop
  | none => ∀ l, P l = false
  | some b => P b = true ∧ ∀ l, P l = true → lt l b = false
theorem best_unique {P : List Int → Bool} {lt : List Int → List Int → Bool} (ht : ∀ a b, lt a b = false → lt b a = false → a = b) : ∀ {r s : Option (List Int)}, Best P lt r → Best P lt s → r = s
  | none, none, _, _ => rfl
  | none, some b, h1, h2 => by have := h1 b; rw [h2.1] at this; cases this
  | some b, none, h1, h2 => by have := h2 b; rw [h1.1] at this; cases this
  | some b, some c, h1, h2 => by rw [ht b c (h2.2 b h1.1) (h1.2 c h2.1)]
theorem same_of_before {a b : List Int} (hl : a.length = b.length) (h1 : beforeS a b = false) (h2 : beforeS b a = false) : a = b := by
  have := before_same a b hl
  rw [h1, h2] at this
  simpa using this
theorem before_trans : ∀ {a b c : List Int}, beforeS a b = true → beforeS b c = true → beforeS a c = true
  | [], [], c, h, _ => by cases h
  | [], _ :: _, [], _, h => by cases h
  | [], _ :: _, _ :: _, _, _ => rfl
  | _ :: _, [], c, h, _ => by cases h
  | _ :: _, _ :: _, [], _, h => by cases h
  | x :: a, y :: b, z :: c, h1, h2 => by
    simp only [beforeS] at h1 h2 ⊢
    split at h1
    · rename_i e; subst e
      split at h2
      · rename_i e; rw [if_pos e]; exact before_trans h1 h2
      · rename_i e; rw [if_neg e]; exact h2
    · rename_i e
      have h1 := of_decide_eq_true h1
      split at h2
      · rename_i e2; subst e2; rw [if_neg e]; exact decide_eq_true h1
      · have h2 := of_decide_eq_true h2
        rw [if_neg (by omega)]; exact decide_eq_true (by omega)
theorem shorter_iff {a b : List Int} : shorterS a b = true ↔ a.length < b.length ∨ (a.length = b.length ∧ beforeS a b = true) := by simp [shorterS]
theorem shorter_total (a b : List Int) (h1 : shorterS a b = false) (h2 : shorterS b a = false) : a = b := by
  have g1 : ¬ shorterS a b = true := by simp [h1]
  have g2 : ¬ shorterS b a = true := by simp [h2]
  rw [shorter_iff] at g1 g2
  have hl : a.length = b.length := by omega
  refine same_of_before hl ?_ ?_
  · cases h : beforeS a b
    · rfl
    · exact absurd (.inr ⟨hl, h⟩) g1
  · cases h : beforeS b a
    · rfl
    · exact absurd (.inr ⟨hl.symm, h⟩) g2
theorem shorter_trans {a b c : List Int} (h1 : shorterS a b = true) (h2 : shorterS b c = true) : shorterS a c = true := by
  rw [shorter_iff] at *
  rcases h1 with h1 | ⟨h1, g1⟩ <;> rcases h2 with h2 | ⟨h2, g2⟩
  · left; omega
  · left; omega
  · left; omega
  · exact .inr ⟨by omega, before_trans g1 g2⟩
def bestStep (H : List Int → Bool) (lt : List Int → List Int → Bool) (b : Option (List Int)) (l : List Int) : Option (List Int) :=
  match b with
  | none => if H l = true then some l else none
  | some c => if lt l c = true ∧ H l = true then some l else some c
theorem best_fold {H : List Int → Bool} {lt : List Int → List Int → Bool} (htr : ∀ a b c, lt a b = true → lt b c = true → lt a c = true) (hir : ∀ a, lt a a = false) :
    ∀ (ls rs : List (List Int)) (b : Option (List Int)), Best (fun l => decide (l ∈ rs) && H l) lt b → Best (fun l => decide (l ∈ rs ++ ls) && H l) lt (ls.foldl (bestStep H lt) b)
  | [], rs, b, h => by simpa using h
  | x :: ls, rs, b, h => by
    have h2 := best_fold (H := H) (lt := lt) htr hir ls (rs ++ [x]) (bestStep H lt b x) (by
      cases b with
      | none =>
        have h : ∀ l, (decide (l ∈ rs) && H l) = false := h
        unfold bestStep; dsimp only
        split
        · rename_i hx
          refine ⟨by simp [hx], fun l hl => ?_⟩
          simp only [Bool.and_eq_true, decide_eq_true_eq, List.mem_append, List.mem_singleton] at hl
          obtain ⟨hl | hl, h3⟩ := hl
          · have := h l; simp [hl, h3] at this
          · subst hl; exact hir _
        · rename_i hx
          intro l
          cases hm : (decide (l ∈ rs ++ [x]) && H l) with
          | false => exact hm
          | true =>
            simp only [Bool.and_eq_true, decide_eq_true_eq, List.mem_append, List.mem_singleton] at hm
            obtain ⟨hl | hl, h3⟩ := hm
            · have := h l; simp [hl, h3] at this
            · subst hl; exact absurd h3 hx
      | some c =>
        obtain ⟨h1, h2⟩ : (decide (c ∈ rs) && H c) = true ∧ ∀ l, (decide (l ∈ rs) && H l) = true → lt l c = false := h
        simp only [Bool.and_eq_true, decide_eq_true_eq] at h1
        unfold bestStep; dsimp only
        split
        · rename_i hx
          refine ⟨by simp [hx.2], fun l hl => ?_⟩
          simp only [Bool.and_eq_true, decide_eq_true_eq, List.mem_append, List.mem_singleton] at hl
          obtain ⟨hl | hl, h3⟩ := hl
          · have h4 := h2 l (by simp [hl, h3])
            cases h5 : lt l x with
            | false => rfl
            | true => rw [htr _ _ _ h5 hx.1] at h4; cases h4
          · subst hl; exact hir _
        · rename_i hx
          refine ⟨by simp [h1], fun l hl => ?_⟩
          simp only [Bool.and_eq_true, decide_eq_true_eq, List.mem_append, List.mem_singleton] at hl
          obtain ⟨hl | hl, h3⟩ := hl
          · exact h2 l (by simp [hl, h3])
          · subst hl
            cases h5 : lt l c with
            | false => rfl
            | true => exact absurd ⟨h5, h3⟩ hx)
    rw [List.append_assoc] at h2
    exact h2
theorem best_of {P Q : List Int → Bool} {lt : List Int → List Int → Bool} (h : ∀ l, P l = Q l) {b : Option (List Int)} (hb : Best P lt b) : Best Q lt b := by
  have : P = Q := funext h
  rw [← this]; exact hb
theorem plan_len {last : Int} : ∀ {l : List Int} {p : Int}, p ≤ last → planS last p l = true → p + l.length ≤ last
  | [], p, h, _ => by simpa using h
  | n :: r, p, h, hp => by
    simp only [planS, Bool.and_eq_true, decide_eq_true_eq] at hp
    have := plan_len hp.2.1 hp.2.2
    simp only [List.length_cons]; omega
theorem upF_find {α : Type} {f : Nat → Option α} {x : α} : ∀ {c n : Nat}, upF f c n = some x → ∃ i, n ≤ i ∧ i < n + c ∧ f i = some x ∧ ∀ j, n ≤ j → j < i → f j = none
  | 0, n, h => by cases h
  | c + 1, n, h => by
    simp only [upF] at h
    split at h
    · rename_i y hn
      cases h
      exact ⟨n, by omega, by omega, hn, fun j h1 h2 => by omega⟩
    · rename_i hn
      obtain ⟨i, h1, h2, h3, h4⟩ := upF_find h
      refine ⟨i, by omega, by omega, h3, fun j h5 h6 => ?_⟩
      by_cases e : j = n
      · subst e; exact hn
      · exact h4 j (by omega) h6
end AM.Try
end
/- Plain laws: the search for the smallest set; bits. -/
section
namespace AM.Try
open Go AM AM.Duty
open Nat renaming reduceLT → sA, reduceAdd → sB, reduceMul → sC, reduceSub → sD, reduceLeDiff → sE, reduceEqDiff → sF, reduceBEq → sG
open Int renaming reduceAdd → sH, reduceSub → sI, reduceMul → sJ, reduceLT → sK, reduceLE → sL, reduceNeg → sM, reduceToNat → sN, reduceEq → sO
theorem upI_none {α : Type} {f : Int → Option α} : ∀ {c : Nat} {n : Int}, upI f c n = none → ∀ k : Nat, k < c → f (n + k) = none
  | 0, n, _, k, h => by omega
  | c + 1, n, h, k, hk => by
    simp only [upI] at h
    split at h
    · cases h
    · rename_i hn
      cases k with
      | zero => simpa using hn
      | succ k => rw [show n + ((k + 1 : Nat) : Int) = n + 1 + k by omega]; exact upI_none h k (by omega)
theorem upI_find {α : Type} {f : Int → Option α} {x : α} : ∀ {c : Nat} {n : Int}, upI f c n = some x → ∃ k : Nat, k < c ∧ f (n + k) = some x ∧ ∀ j : Nat, j < k → f (n + j) = none
  | 0, n, h => by cases h
  | c + 1, n, h => by
    simp only [upI] at h
    split at h
    · rename_i y hn
      cases h
      exact ⟨0, by omega, by simpa using hn, fun j hj => by omega⟩
    · rename_i hn
      obtain ⟨k, h1, h2, h3⟩ := upI_find h
      refine ⟨k + 1, by omega, by rw [show n + ((k + 1 : Nat) : Int) = n + 1 + k by omega]; exact h2, fun j hj => ?_⟩
      cases j with
      | zero => simpa using hn
      | succ j => rw [show n + ((j + 1 : Nat) : Int) = n + 1 + j by omega]; exact h3 j (by omega)
theorem leaveF_spec {H : List Int → Bool} {len : Int} : ∀ (m : Nat) (out : List Int) (fr : Int),
    (leaveF H len m out fr = none → ∀ l, l.length = m → planS (len - 1) (fr - 1) l = true → H (out ++ l) = false) ∧
    (∀ ds, leaveF H len m out fr = some ds → ∃ l, ds = out ++ l ∧ l.length = m ∧ planS (len - 1) (fr - 1) l = true ∧ H ds = true ∧ ∀ l', l'.length = m → planS (len - 1) (fr - 1) l' = true → H (out ++ l') = true → beforeS l' l = false)
  | 0, out, fr => by
    simp only [leaveF]
    refine ⟨fun h l hl hp0 => ?_, fun ds h => ?_⟩
    · have : l = [] := List.length_eq_zero_iff.1 hl
      subst this
      by_cases hH : H out = true
      · rw [if_pos hH] at h; cases h
      · simpa using hH
    · split at h
      · rename_i hH; cases h
        exact ⟨[], by simp, rfl, rfl, hH, fun l' hl' _ _ => by rw [List.length_eq_zero_iff.1 hl']; rfl⟩
      · cases h
  | m + 1, out, fr => by
    simp only [leaveF]
    have key : ∀ n r, r.length = m → planS (len - 1) (fr - 1) (n :: r) = true → ∃ k : Nat, k < (len - (m + 1) - fr + 1).toNat ∧ fr + (k : Int) = n ∧ planS (len - 1) (n + 1 - 1) r = true := fun n r hr hp => by
      simp only [planS, Bool.and_eq_true, decide_eq_true_eq] at hp
      have := plan_len hp.2.1 hp.2.2
      exact ⟨(n - fr).toNat, by omega, by omega, by rw [show n + 1 - 1 = n by omega]; exact hp.2.2⟩
    refine ⟨fun h l hl hp => ?_, fun ds h => ?_⟩
    · cases l with
      | nil => cases hl
      | cons n r =>
        have hr : r.length = m := by simpa using hl
        obtain ⟨k, hk, e, hp2⟩ := key n r hr hp
        have h1 := upI_none h k hk
        rw [e] at h1
        have := (leaveF_spec m (out ++ [n]) (n + 1)).1 h1 r hr hp2
        simpa using this
    · obtain ⟨k, hk, h1, h2⟩ := upI_find h
      obtain ⟨r, e, hr, hp, hH, hb⟩ := (leaveF_spec m _ _).2 ds h1
      refine ⟨(fr + (k : Int)) :: r, by simp [e], by simp [hr], ?_, hH, fun l' hl' hp' hH' => ?_⟩
      · rw [show fr + (k : Int) + 1 - 1 = fr + k by omega] at hp
        simp only [planS, hp, Bool.and_true, Bool.and_eq_true, decide_eq_true_eq]; omega
      · cases l' with
        | nil => cases hl'
        | cons n' r' =>
          have hr' : r'.length = m := by simpa using hl'
          obtain ⟨k', hk', e', hp2⟩ := key n' r' hr' hp'
          by_cases hlt : k' < k
          · have h3 := h2 k' hlt
            rw [e'] at h3
            have := (leaveF_spec m (out ++ [n']) (n' + 1)).1 h3 r' hr' hp2
            rw [show out ++ n' :: r' = out ++ [n'] ++ r' by simp] at hH'
            rw [this] at hH'; cases hH'
          · by_cases heq : k' = k
            · subst heq
              rw [e'] at hb ⊢
              simp only [beforeS, if_true]
              refine hb r' hr' hp2 ?_
              rw [List.append_assoc]; exact hH'
            · simp only [beforeS]
              rw [if_neg (by omega)]
              exact decide_eq_false (by omega)
theorem leave_best {H : List Int → Bool} {len : Nat} : Best (fun l => planS ((len : Int) - 1) (-1) l && H l) shorterS (upF (fun m => leaveF H len m [] 0) (len + 1) 0) := by
  cases hu : upF (fun m => leaveF H len m [] 0) (len + 1) 0 with
  | none =>
    intro l
    cases hp : planS ((len : Int) - 1) (-1) l with
    | false => simp [hp]
    | true =>
      have hl := plan_len (show (-1 : Int) ≤ (len : Int) - 1 by omega) hp
      have h1 := upF_none hu l.length (by omega) (by omega)
      have := (leaveF_spec l.length [] 0).1 h1 l rfl hp
      simpa [hp] using this
  | some b =>
    obtain ⟨i, _, h2, h3, h4⟩ := upF_find hu
    obtain ⟨l, e, hl, hp, hH, hb⟩ := (leaveF_spec i [] 0).2 b h3
    rw [List.nil_append] at e
    subst e
    have hp : planS ((len : Int) - 1) (-1) b = true := hp
    refine ⟨by simp [hp, hH], fun l' hl' => ?_⟩
    simp only [Bool.and_eq_true] at hl'
    cases hs : shorterS l' b with
    | false => rfl
    | true =>
      rw [shorter_iff] at hs
      rcases hs with hs | ⟨hs, g⟩
      · have h1 := h4 l'.length (by omega) (by omega)
        have := (leaveF_spec l'.length [] 0).1 h1 l' rfl hl'.1
        rw [List.nil_append, hl'.2] at this; cases this
      · have := hb l' (by omega) hl'.1 (by simpa using hl'.2)
        rw [g] at this; cases this
def bitsF : Nat → Nat → Nat → List Int
  | 0, _, _ => []
  | c + 1, p, n => if n % 2 = 1 then (p : Int) :: bitsF c (p + 1) (n / 2) else bitsF c (p + 1) (n / 2)
def bitsS (n : Nat) : List Int := bitsF 16 0 n
theorem bitsF_zero : ∀ c p, bitsF c p 0 = []
  | 0, _ => rfl
  | c + 1, p => by simp only [bitsF]; rw [if_neg (by decide)]; exact bitsF_zero c (p + 1)
theorem plan_low {last : Int} : ∀ {l : List Int} {p q : Int}, q ≤ p → planS last p l = true → planS last q l = true
  | [], _, _, _, _ => rfl
  | n :: r, p, q, h, hp => by
    simp only [planS, Bool.and_eq_true, decide_eq_true_eq] at hp ⊢
    exact ⟨by omega, hp.2⟩
theorem bitsF_plan : ∀ {c p k n : Nat}, n < 2 ^ k → planS ((p : Int) + k - 1) ((p : Int) - 1) (bitsF c p n) = true
  | 0, _, _, _, _ => rfl
  | c + 1, p, 0, n, h => by
    have : n = 0 := by simpa using h
    subst this; rw [bitsF_zero]; rfl
  | c + 1, p, k + 1, n, h => by
    have h1 : n / 2 < 2 ^ k := by rw [Nat.pow_succ] at h; omega
    have ih := bitsF_plan (c := c) (p := p + 1) h1
    rw [show ((p + 1 : Nat) : Int) + k - 1 = (p : Int) + (k + 1 : Nat) - 1 by omega, show ((p + 1 : Nat) : Int) - 1 = p by omega] at ih
    simp only [bitsF]
    split
    · simp only [planS, ih, Bool.and_true, Bool.and_eq_true, decide_eq_true_eq]; omega
    · exact plan_low (by omega) ih
theorem bitsF_find : ∀ {k c p : Nat} {l : List Int}, k ≤ c → planS ((p : Int) + k - 1) ((p : Int) - 1) l = true → ∃ n, n < 2 ^ k ∧ bitsF c p n = l
  | k, c, p, [], _, _ => ⟨0, Nat.pow_pos (by decide), bitsF_zero c p⟩
  | 0, c, p, x :: r, _, h => by simp only [planS, Bool.and_eq_true, decide_eq_true_eq] at h; omega
  | k + 1, 0, p, x :: r, hc, _ => by omega
  | k + 1, c + 1, p, x :: r, hc, h => by
    have e1 : (p : Int) + (k + 1 : Nat) - 1 = ((p + 1 : Nat) : Int) + k - 1 := by omega
    have e2 : ((p + 1 : Nat) : Int) - 1 = p := by omega
    have h0 := h
    simp only [planS, Bool.and_eq_true, decide_eq_true_eq] at h0
    by_cases hx : x = p
    · obtain ⟨n, hn, hb⟩ := bitsF_find (k := k) (c := c) (p := p + 1) (l := r) (by omega) (by rw [← e1, e2]; rw [hx] at h0; exact h0.2.2)
      refine ⟨2 * n + 1, by rw [Nat.pow_succ]; omega, ?_⟩
      simp only [bitsF]
      rw [if_pos (by omega), show (2 * n + 1) / 2 = n by omega, hb, hx]
    · obtain ⟨n, hn, hb⟩ := bitsF_find (k := k) (c := c) (p := p + 1) (l := x :: r) (by omega) (by
        rw [← e1, e2]
        simp only [planS, h0.2.2, Bool.and_true, Bool.and_eq_true, decide_eq_true_eq]; omega)
      refine ⟨2 * n, by rw [Nat.pow_succ]; omega, ?_⟩
      simp only [bitsF]
      rw [if_neg (by omega), show 2 * n / 2 = n by omega, hb]
theorem bits_mem {k : Nat} {l : List Int} (hk : k ≤ 16) : l ∈ (List.range (2 ^ k)).map bitsS ↔ planS ((k : Int) - 1) (-1) l = true := by
  rw [List.mem_map]
  have e1 : ((0 : Nat) : Int) + k - 1 = (k : Int) - 1 := by omega
  constructor
  · rintro ⟨n, hn, rfl⟩
    have := bitsF_plan (c := 16) (p := 0) (List.mem_range.1 hn)
    rw [e1] at this; exact this
  · intro h
    obtain ⟨n, hn, hb⟩ := bitsF_find (c := 16) (p := 0) (l := l) hk (by rw [e1]; exact h)
    exact ⟨n, List.mem_range.2 hn, hb⟩
theorem before_irr : ∀ a : List Int, beforeS a a = false
  | [] => rfl
  | x :: a => by simp only [beforeS, if_true]; exact before_irr a
theorem shorter_irr (a : List Int) : shorterS a a = false := by simp [shorterS, before_irr]
def woR : Nat → List Entry → List Entry
  | _, [] => []
  | n, e :: es => if n % 2 = 0 then e :: woR (n / 2) es else woR (n / 2) es
def withoutR (a : Acc) (n : Nat) : Acc := { a with entries := woR n a.entries }
theorem woF_congr {o o' : List Int} : ∀ {es : List Entry} {j : Nat}, (∀ i : Nat, j ≤ i → ((i : Int) ∈ o ↔ (i : Int) ∈ o')) → woF o j es = woF o' j es
  | [], j, _ => rfl
  | e :: es, j, h => by
    simp only [woF]
    have h1 := h j (Nat.le_refl _)
    have h2 := woF_congr (es := es) (j := j + 1) fun i hi => h i (by omega)
    by_cases hm : (j : Int) ∈ o
    · rw [if_pos hm, if_pos (h1.1 hm), h2]
    · rw [if_neg hm, if_neg (fun x => hm (h1.2 x)), h2]
theorem bitsF_low : ∀ {c p n : Nat} {x : Int}, x ∈ bitsF c p n → (p : Int) ≤ x
  | 0, _, _, _, h => by cases h
  | c + 1, p, n, x, h => by
    simp only [bitsF] at h
    split at h
    · rcases List.mem_cons.1 h with rfl | h
      · omega
      · have := bitsF_low h; omega
    · have := bitsF_low h; omega
theorem wo_bits : ∀ {es : List Entry} {c p n : Nat}, es.length ≤ c → woF (bitsF c p n) p es = woR n es
  | [], _, _, _, _ => rfl
  | e :: es, 0, p, n, h => by simp at h
  | e :: es, c + 1, p, n, h => by
    have ih := wo_bits (es := es) (c := c) (p := p + 1) (n := n / 2) (by simpa using h)
    simp only [woF, woR]
    by_cases hn : n % 2 = 1
    · have hb : bitsF (c + 1) p n = (p : Int) :: bitsF c (p + 1) (n / 2) := by simp only [bitsF]; rw [if_pos hn]
      rw [hb, if_pos (by simp), if_neg (by omega), ← ih]
      refine woF_congr fun i hi => ?_
      rw [List.mem_cons]
      exact ⟨fun h => h.resolve_left (by omega), .inr⟩
    · have hb : bitsF (c + 1) p n = bitsF c (p + 1) (n / 2) := by simp only [bitsF]; rw [if_neg hn]
      have hnm : ¬ (p : Int) ∈ bitsF c (p + 1) (n / 2) := fun h => by have := bitsF_low h; omega
      rw [hb, if_neg hnm, if_pos (by omega), ← ih]
theorem without_eq {a : Acc} (hl : a.entries.length ≤ 16) (n : Nat) : withoutP a (bitsS n) = withoutR a n := by
  unfold withoutP withoutR bitsS
  rw [wo_bits hl]
theorem wo_all : ∀ (es : List Entry), woR (2 ^ es.length - 1) es = []
  | [] => rfl
  | e :: es => by
    have h1 : 2 ^ (es.length + 1) = 2 * 2 ^ es.length := by rw [Nat.pow_succ, Nat.mul_comm]
    have h2 : 0 < 2 ^ es.length := Nat.pow_pos (by decide)
    simp only [woR, List.length_cons, h1]
    rw [if_neg (by omega), show (2 * 2 ^ es.length - 1) / 2 = 2 ^ es.length - 1 by omega]
    exact wo_all es
def leaves1 (a : Acc) (out : List Int) : Bool := possibleS (withoutP a out)
theorem leaves_eq {a : Acc} (hf : faultS a = 0) (out : List Int) : goodL a out = leaves1 a out := by
  unfold goodL leaves1
  rw [possible_eq, truths_empty (fault_wo hf out)]
theorem leaves_all {a : Acc} (hf : faultS a = 0) : leaves1 a (bitsS (2 ^ a.entries.length - 1)) = true := by
  rw [← leaves_eq hf]
  have hl : a.entries.length ≤ 8 := (fault_zero hf).2.1
  have h : (withoutP a (bitsS (2 ^ a.entries.length - 1))).entries = [] := by
    rw [without_eq (by omega)]; exact wo_all _
  unfold goodL truthsL
  rw [h]
  have h2 : (playS (withoutP a (bitsS (2 ^ a.entries.length - 1))) [] [] true).2 = true := play_none h _ _ _
  simp only [listsP, List.filter_cons, h2, if_true, List.filter_nil, List.isEmpty_cons, Bool.not_false]
def leaveTo (a : Acc) (k : Nat) : Option (List Int) := ((List.range k).map bitsS).foldl (bestStep (leaves1 a) shorterS) (some (bitsS (2 ^ a.entries.length - 1)))
theorem leaveTo_succ (a : Acc) (k : Nat) : leaveTo a (k + 1) = bestStep (leaves1 a) shorterS (leaveTo a k) (bitsS k) := by
  simp only [leaveTo, List.range_succ, List.map_append, List.foldl_append, List.map_cons, List.map_nil, List.foldl_cons, List.foldl_nil]
def leaveR (a : Acc) : Option (List Int) := leaveTo a (2 ^ a.entries.length)
theorem leaveL_best {a : Acc} (hf : faultS a = 0) : Best (fun l => planS ((a.entries.length : Int) - 1) (-1) l && leaves1 a l) shorterS (leaveL a) := by
  have h := leave_best (H := goodL a) (len := a.entries.length)
  exact best_of (fun l => by rw [leaves_eq hf]) h
theorem leave_eq {a : Acc} (hf : faultS a = 0) : leaveL a = leaveR a := by
  refine best_unique shorter_total (leaveL_best hf) ?_
  have hl : a.entries.length ≤ 8 := (fault_zero hf).2.1
  have h := best_fold (H := leaves1 a) (lt := shorterS) (fun _ _ _ => shorter_trans) shorter_irr ((List.range (2 ^ a.entries.length)).map bitsS) [bitsS (2 ^ a.entries.length - 1)] (some (bitsS (2 ^ a.entries.length - 1))) ⟨by simp [leaves_all hf], fun l hl => by
    simp only [Bool.and_eq_true, decide_eq_true_eq, List.mem_singleton] at hl
    rw [hl.1]; exact shorter_irr _⟩
  refine best_of (fun l => ?_) h
  have hm := bits_mem (k := a.entries.length) (l := l) (by omega)
  congr 1
  rw [Bool.eq_iff_iff, decide_eq_true_iff, ← hm, List.mem_append, List.mem_singleton]
  constructor
  · rintro (rfl | h)
    · exact List.mem_map.2 ⟨_, List.mem_range.2 (by have : 0 < 2 ^ a.entries.length := Nat.pow_pos (by decide); omega), rfl⟩
    · exact h
  · exact .inr
end AM.Try
end
/- The law of bounds. -/
section
namespace AM.Try
open Go AM AM.Duty
open Nat renaming reduceLT → sA, reduceAdd → sB, reduceMul → sC, reduceSub → sD, reduceLeDiff → sE, reduceEqDiff → sF, reduceBEq → sG
open Int renaming reduceAdd → sH, reduceSub → sI, reduceMul → sJ, reduceLT → sK, reduceLE → sL, reduceNeg → sM, reduceToNat → sN, reduceEq → sO
set_option maxHeartbeats 8000000
set_option maxRecDepth 100000
abbrev bndE (a : Acc) : List (List PV) := (List.range (a.last + 1).toNat).map fun k => [iv (bndR a k (truthsR a)).1, iv (bndR a k (truthsR a)).2]
theorem bndE_getD {a : Acc} {k : Nat} (h : k < (a.last + 1).toNat) : (bndE a).getD k [] = [iv (bndR a k (truthsR a)).1, iv (bndR a k (truthsR a)).2] := by
  simp only [bndE, List.getD_eq_getElem?_getD, List.getElem?_map, List.getElem?_range h, Option.map_some, Option.getD_some]
theorem bA4 (a : Acc) : boundsA a = if faultS a = 0 then if (truthsR a).isEmpty = true then .tup [.p (.val (.slice none 0 0)), i64 9] else .tup [.p (.sl (bndE a)), i64 0] else .tup [.p (.val (.slice none 0 0)), i64 (faultS a)] := by
  by_cases hf : faultS a = 0
  · rw [boundsA_eq hf, if_pos hf]
  · unfold boundsA; rw [if_neg hf, if_neg hf]
end AM.Try
end
/- The law of payments. -/
section
namespace AM.Try
open Go AM AM.Duty
open Nat renaming reduceLT → sA, reduceAdd → sB, reduceMul → sC, reduceSub → sD, reduceLeDiff → sE, reduceEqDiff → sF, reduceBEq → sG
open Int renaming reduceAdd → sH, reduceSub → sI, reduceMul → sJ, reduceLT → sK, reduceLE → sL, reduceNeg → sM, reduceToNat → sN, reduceEq → sO
set_option maxHeartbeats 8000000
set_option maxRecDepth 100000
def dsV (ds : List Int) : PV := if ds.isEmpty then .val (.slice none 0 0) else .sl (ds.map encI)
theorem dsV_p (ds : List Int) : (if ds.isEmpty = true then .p (.val (.slice none 0 0)) else isl ds) = AV.p (dsV ds) := by cases ds <;> rfl
end AM.Try
end
/- The reference: without some entries; the smallest set. -/
section
namespace AM.Try
open Go AM AM.Duty
open Nat renaming reduceLT → sA, reduceAdd → sB, reduceMul → sC, reduceSub → sD, reduceLeDiff → sE, reduceEqDiff → sF, reduceBEq → sG
open Int renaming reduceAdd → sH, reduceSub → sI, reduceMul → sJ, reduceLT → sK, reduceLE → sL, reduceNeg → sM, reduceToNat → sN, reduceEq → sO
set_option maxHeartbeats 8000000
set_option maxRecDepth 100000
def lvTo (a : Acc) (k : Nat) : List Int := (leaveTo a k).getD []
theorem lvTo_some (a : Acc) : ∀ k, leaveTo a k = some (lvTo a k)
  | 0 => rfl
  | k + 1 => by
    unfold lvTo
    rw [leaveTo_succ, lvTo_some a k]
    unfold bestStep
    split
    · rename_i h; cases h
    · split <;> rfl
abbrev lvR (a : Acc) : List Int := lvTo a (2 ^ a.entries.length)
end AM.Try
end
/- The law of leaving out. -/
section
namespace AM.Try
open Go AM AM.Duty
open Nat renaming reduceLT → sA, reduceAdd → sB, reduceMul → sC, reduceSub → sD, reduceLeDiff → sE, reduceEqDiff → sF, reduceBEq → sG
open Int renaming reduceAdd → sH, reduceSub → sI, reduceMul → sJ, reduceLT → sK, reduceLE → sL, reduceNeg → sM, reduceToNat → sN, reduceEq → sO
set_option maxHeartbeats 8000000
set_option maxRecDepth 100000
theorem lvR_some {a : Acc} (hf : faultS a = 0) : leaveL a = some (lvR a) := by rw [leave_eq hf]; exact lvTo_some a _
theorem lA6 (a : Acc) : leaveA a = if faultS a = 0 then .tup [.p (dsV (lvR a)), i64 0] else .tup [.p (.val (.slice none 0 0)), i64 (faultS a)] := by
  unfold leaveA
  by_cases hf : faultS a = 0
  · rw [if_pos hf, if_pos hf, lvR_some hf]
    simp only [dsV_p]
  · rw [if_neg hf, if_neg hf]
end AM.Try
end
/- The laws' own plays. -/
section
namespace AM.Try
open Go AM AM.Duty
open Nat renaming reduceLT → sA, reduceAdd → sB, reduceMul → sC, reduceSub → sD, reduceLeDiff → sE, reduceEqDiff → sF, reduceBEq → sG
open Int renaming reduceAdd → sH, reduceSub → sI, reduceMul → sJ, reduceLT → sK, reduceLE → sL, reduceNeg → sM, reduceToNat → sN, reduceEq → sO
set_option maxHeartbeats 8000000
set_option maxRecDepth 100000
def readyS (a : Acc) : Bool := thinS a && decide (faultS a = 0)
theorem c46 (a : Acc) : PCall Go.Proofs.Try.prog 46 [avA a] (bl (readyS a)) := by
  refine pcall_mk (v := []) (q := []) (N := 10) (rs := [.tmp 2]) Go.Proofs.Try.func46 rfl rfl rfl rfl rfl ?_
  cases hth : thinS a <;> by_cases hf : faultS a = 0
  all_goals try obtain ⟨hl1, hl2⟩ := thin_len hth
  all_goals
    refine awp_seq_k fun K1 hK1 => ?_
    refine awp_ops ?_
    simp (disch := omega) only [amL, sA, ↓reduceIte]
    refine hK1 _ ?_
    refine awp_seq_k fun K2 hK2 => ?_
    refine awp_ops ?_
    simp (disch := omega) only [amL, amT, sA, sB, sF, ↓reduceIte]
    repeat' first | (refine EG_dec (fun h => ?_) (fun h => ?_) <;> simp (disch := omega) only [h, ne_eq, hth, hf, amL, amT, sA, sB, sC, sD, sE, sF, sG, sH, sI, sJ, sK, sL, sM, sN, sO, ↓reduceIte, reduceCtorEq]) | (refine EG_cases (fun h => ?_) (fun h => ?_) <;> simp (disch := omega) only [h, ne_eq, hth, hf, amL, amT, sA, sB, sC, sD, sE, sF, sG, sH, sI, sJ, sK, sL, sM, sN, sO, ↓reduceIte, reduceCtorEq]) | (refine EC_intro (by kernel_rfl) rfl (c19t a) (by first | exact .inl rfl | exact .inr (.inl rfl)) ?_ ; simp (disch := omega) only [hth, amL, amT, sA, sB, sF, ↓reduceIte]) | (refine EC_intro (by kernel_rfl) rfl (c24 a (by omega) (by omega)) (by first | exact .inl rfl | exact .inr (.inl rfl)) ?_ ; simp (disch := omega) only [hf, amL, amT, sA, sF, ↓reduceIte])
    all_goals
     skip
     refine hK2 _ ?_
     refine awp_ret ?_
     try simp (disch := omega) only [amL, ↓reduceIte]
     all_goals first | (simp [readyS, hth, hf]; done) | (omega)
end AM.Try
end
/- The stage's theorem. -/
section
namespace AM.Try
open Go AM AM.Duty
open Nat renaming reduceLT → sA, reduceAdd → sB, reduceMul → sC, reduceSub → sD, reduceLeDiff → sE, reduceEqDiff → sF, reduceBEq → sG
open Int renaming reduceAdd → sH, reduceSub → sI, reduceMul → sJ, reduceLT → sK, reduceLE → sL, reduceNeg → sM, reduceToNat → sN, reduceEq → sO
set_option maxHeartbeats 8000000
set_option maxRecDepth 100000
theorem bnd_le {a : Acc} {t : List Int} (ht : t ∈ truthsR a) (k : Nat) : (bndR a k (truthsR a)).1 ≤ debtOn a k t ∧ debtOn a k t ≤ (bndR a k (truthsR a)).2 := by
  unfold bndR; rw [bnd_fold]
  exact ⟨(min_spec _ _).2.2 _ (List.mem_map_of_mem ht), (max_spec _ _).2.2 _ (List.mem_map_of_mem ht)⟩
end AM.Try
end
/- Plain laws: truths, bounds, plays of two accounts. -/
section
namespace AM.Try
open Go AM AM.Duty
open Nat renaming reduceLT → sA, reduceAdd → sB, reduceMul → sC, reduceSub → sD, reduceLeDiff → sE, reduceEqDiff → sF, reduceBEq → sG
open Int renaming reduceAdd → sH, reduceSub → sI, reduceMul → sJ, reduceLT → sK, reduceLE → sL, reduceNeg → sM, reduceToNat → sN, reduceEq → sO
theorem mem_R {a : Acc} (hf : faultS a = 0) {t : List Int} : t ∈ truthsR a ↔ listedS a.entries t = true ∧ isTruth a t = true := by
  have h := (playS_ask hf t).1
  rw [show (debtsS a t []).2 = isTruth a t from rfl] at h
  rw [← mem_truths hf]
  unfold truthsL
  rw [List.mem_filter, mem_lists, h]
  constructor
  · rintro ⟨⟨y, e, hy⟩, h2⟩
    rw [List.nil_append] at e; subst e
    rw [listed_eq] at hy; exact ⟨hy, h2⟩
  · rintro ⟨h1, h2⟩
    exact ⟨⟨t, rfl, by rw [listed_eq]; exact h1⟩, h2⟩
theorem some_of_not_empty {α : Type} {l : List α} (h : l.isEmpty = false) : ∃ x, x ∈ l := by
  cases l with
  | nil => cases h
  | cons x l => exact ⟨x, by simp⟩
theorem not_empty {α : Type} {l : List α} {x : α} (h : x ∈ l) : l.isEmpty = false := by
  cases l with
  | nil => cases h
  | cons _ _ => rfl
theorem bnd_hit {a : Acc} (hf : faultS a = 0) (hne : (truthsR a).isEmpty = false) {k : Nat} (hk : k < (a.last + 1).toNat) : (∃ t ∈ truthsR a, debtOn a k t = (bndR a k (truthsR a)).1) ∧ ∃ t ∈ truthsR a, debtOn a k t = (bndR a k (truthsR a)).2 := by
  have hs : ∀ x ∈ (truthsR a).map (debtOn a k), -100000000000 ≤ x ∧ x ≤ 100000000000 := fun x hx => by
    obtain ⟨t, ht, rfl⟩ := List.mem_map.1 hx
    exact debt_small hf ((mem_truths hf).2 ht) hk
  obtain ⟨t, ht⟩ := some_of_not_empty hne
  have htm := List.mem_map_of_mem (f := debtOn a k) ht
  unfold bndR; rw [bnd_fold]
  obtain ⟨c1, c2, c3⟩ := min_spec ((truthsR a).map (debtOn a k)) 1099511627776
  obtain ⟨d1, d2, d3⟩ := max_spec ((truthsR a).map (debtOn a k)) (-1099511627776)
  have g1 := c3 _ htm
  have g2 := d3 _ htm
  have g3 := hs _ htm
  constructor
  · rcases c1 with h | h
    · omega
    · obtain ⟨u, hu, e⟩ := List.mem_map.1 h; exact ⟨u, hu, e⟩
  · rcases d1 with h | h
    · omega
    · obtain ⟨u, hu, e⟩ := List.mem_map.1 h; exact ⟨u, hu, e⟩
theorem bnd_wider {a x : Acc} (hf : faultS a = 0) (hne : (truthsR a).isEmpty = false) {k : Nat} (hk : k < (a.last + 1).toNat) (h : ∀ t ∈ truthsR a, ∃ u ∈ truthsR x, debtOn x k u = debtOn a k t) :
    (bndR x k (truthsR x)).1 ≤ (bndR a k (truthsR a)).1 ∧ (bndR a k (truthsR a)).2 ≤ (bndR x k (truthsR x)).2 := by
  obtain ⟨⟨t, ht, e⟩, s, hs, e'⟩ := bnd_hit hf hne hk
  obtain ⟨u, hu, g⟩ := h t ht
  obtain ⟨v, hv, g'⟩ := h s hs
  have h1 := bnd_le hu k
  have h2 := bnd_le hv k
  omega
theorem debtsF_congr {a x : Acc} {t u p q : List Int} (h : ∀ (day : Nat) w, dayS a t p day w = dayS x u q day w) : ∀ (c day : Nat) w, debtsF a t p c day w = debtsF x u q c day w
  | 0, _, _ => rfl
  | c + 1, day, w => by simp only [debtsF]; rw [h, debtsF_congr h c]
end AM.Try
end
/- Plain laws: two entries change places; wider ranges. -/
section
namespace AM.Try
open Go AM AM.Duty
open Nat renaming reduceLT → sA, reduceAdd → sB, reduceMul → sC, reduceSub → sD, reduceLeDiff → sE, reduceEqDiff → sF, reduceBEq → sG
open Int renaming reduceAdd → sH, reduceSub → sI, reduceMul → sJ, reduceLT → sK, reduceLE → sL, reduceNeg → sM, reduceToNat → sN, reduceEq → sO
def swp {α : Type} : Nat → List α → List α
  | 0, x :: y :: l => y :: x :: l
  | k + 1, x :: l => x :: swp k l
  | _, l => l
def wid : List Entry → List Entry → Prop
  | [], [] => True
  | e :: es, f :: fs => (f.kind = e.kind ∧ f.day = e.day ∧ f.pence = e.pence ∧ f.lo ≤ e.lo ∧ e.hi ≤ f.hi) ∧ wid es fs
  | _, _ => False
theorem wid_refl : ∀ es : List Entry, wid es es
  | [] => trivial
  | _ :: es => ⟨⟨rfl, rfl, rfl, Int.le_refl _, Int.le_refl _⟩, wid_refl es⟩
theorem wid_set : ∀ {es : List Entry} {j : Nat} {f : Entry}, j < es.length → (f.kind = (getE es j).kind ∧ f.day = (getE es j).day ∧ f.pence = (getE es j).pence ∧ f.lo ≤ (getE es j).lo ∧ (getE es j).hi ≤ f.hi) → wid es (es.set j f)
  | [], _, _, h, _ => by simp at h
  | e :: es, 0, f, _, h => ⟨h, wid_refl es⟩
  | e :: es, j + 1, f, hj, h => ⟨⟨rfl, rfl, rfl, Int.le_refl _, Int.le_refl _⟩, wid_set (by simpa using hj) h⟩
theorem wid_len : ∀ {es fs : List Entry}, wid es fs → fs.length = es.length
  | [], [], _ => rfl
  | e :: es, f :: fs, h => by simp [wid_len h.2]
  | [], _ :: _, h => h.elim
  | _ :: _, [], h => h.elim
theorem wid_day {rate day : Int} : ∀ {es fs : List Entry} {t : List Int} {w : Wk}, wid es fs → dayF rate day fs t w = dayF rate day es t w
  | [], [], t, w, _ => rfl
  | e :: es, f :: fs, [], w, _ => rfl
  | e :: es, f :: fs, u :: t, w, h => by
    obtain ⟨⟨h1, h2, h3, _, _⟩, h4⟩ := h
    simp only [dayF]
    rw [show stepE rate day f u w = stepE rate day e u w by unfold stepE; rw [h1, h2, h3]]
    exact wid_day h4
  | [], _ :: _, _, _, h => h.elim
  | _ :: _, [], _, _, h => h.elim
theorem wid_listed : ∀ {es fs : List Entry} {t : List Int}, wid es fs → listedS es t = true → listedS fs t = true
  | [], [], t, _, h => h
  | e :: es, f :: fs, [], _, h => h
  | e :: es, f :: fs, u :: t, h, hl => by
    obtain ⟨⟨_, _, _, h1, h2⟩, h4⟩ := h
    simp only [listedS, inB, Bool.and_eq_true, decide_eq_true_eq] at hl ⊢
    exact ⟨by omega, wid_listed h4 hl.2⟩
  | [], _ :: _, _, h, _ => h.elim
  | _ :: _, [], _, h, _ => h.elim
theorem wid_wo {out : List Int} : ∀ {es fs : List Entry} {j : Nat}, wid es fs → wid (woF out j es) (woF out j fs)
  | [], [], _, _ => trivial
  | e :: es, f :: fs, j, h => by
    simp only [woF]
    split
    · exact wid_wo h.2
    · exact ⟨h.1, wid_wo h.2⟩
  | [], _ :: _, _, h => h.elim
  | _ :: _, [], _, h => h.elim
theorem wid_debts {a : Acc} {fs : List Entry} (h : wid a.entries fs) (t : List Int) : debtsS { a with entries := fs } t [] = debtsS a t [] := by
  unfold debtsS
  refine debtsF_congr (fun day w => ?_) _ _ _
  unfold dayS dayI
  simp only [wid_day h]
theorem wid_truth {a : Acc} (hf : faultS a = 0) {fs : List Entry} (h : wid a.entries fs) (hx : faultS { a with entries := fs } = 0) {t : List Int} (ht : t ∈ truthsR a) : t ∈ truthsR { a with entries := fs } := by
  obtain ⟨h1, h2⟩ := (mem_R hf).1 ht
  refine (mem_R hx).2 ⟨wid_listed h h1, ?_⟩
  unfold isTruth at h2 ⊢
  rw [wid_debts h]; exact h2
theorem wid_bnd {a : Acc} (hf : faultS a = 0) {fs : List Entry} (h : wid a.entries fs) (hx : faultS { a with entries := fs } = 0) (hne : (truthsR a).isEmpty = false) {k : Nat} (hk : k < (a.last + 1).toNat) :
    (bndR { a with entries := fs } k (truthsR { a with entries := fs })).1 ≤ (bndR a k (truthsR a)).1 ∧ (bndR a k (truthsR a)).2 ≤ (bndR { a with entries := fs } k (truthsR { a with entries := fs })).2 :=
  bnd_wider hf hne hk fun t ht => ⟨t, wid_truth hf h hx ht, by unfold debtOn; rw [wid_debts h]⟩
theorem leaves_possible {a : Acc} {out : List Int} : leaves1 a out = true ↔ ∃ t, t ∈ truthsR (withoutP a out) := by
  unfold leaves1; rw [possible_eq]
  cases hR : truthsR (withoutP a out) with
  | nil => simp
  | cons t l => simp only [List.isEmpty_cons, Bool.not_false, true_iff]; exact ⟨t, by simp⟩
theorem wid_leaves {a : Acc} (hf : faultS a = 0) {fs : List Entry} (h : wid a.entries fs) (hx : faultS { a with entries := fs } = 0) {out : List Int} (hl : leaves1 a out = true) : leaves1 { a with entries := fs } out = true := by
  rw [leaves_possible] at hl ⊢
  obtain ⟨t, ht⟩ := hl
  exact ⟨t, wid_truth (a := withoutP a out) (fault_wo hf out) (wid_wo h) (fault_wo hx out) ht⟩
theorem leave_some_of {a : Acc} (hf : faultS a = 0) {l : List Int} (h : leaveL a = some l) : planS ((a.entries.length : Int) - 1) (-1) l = true ∧ leaves1 a l = true ∧ ∀ m, planS ((a.entries.length : Int) - 1) (-1) m = true → leaves1 a m = true → shorterS m l = false := by
  have := leaveL_best hf
  rw [h] at this
  obtain ⟨h1, h2⟩ := this
  simp only [Bool.and_eq_true] at h1 h2
  exact ⟨h1.1, h1.2, fun m g1 g2 => h2 m ⟨g1, g2⟩⟩
theorem wid_leave {a : Acc} (hf : faultS a = 0) {fs : List Entry} (h : wid a.entries fs) (hx : faultS { a with entries := fs } = 0) {l m : List Int} (hl : leaveL a = some l) (hm : leaveL { a with entries := fs } = some m) : m.length ≤ l.length := by
  obtain ⟨h1, h2, _⟩ := leave_some_of hf hl
  obtain ⟨_, _, h3⟩ := leave_some_of hx hm
  have h4 := h3 l (by rw [show (({ a with entries := fs } : Acc).entries.length : Int) = a.entries.length by rw [show ({ a with entries := fs } : Acc).entries = fs from rfl, wid_len h]]; exact h1) (wid_leaves hf h hx h2)
  by_cases g : m.length ≤ l.length
  · exact g
  · rw [shorter_iff.2 (.inl (by omega))] at h4; cases h4
end AM.Try
end
/- The law of the fewest payments. -/
section
namespace AM.Try
open Go AM AM.Duty
open Nat renaming reduceLT → sA, reduceAdd → sB, reduceMul → sC, reduceSub → sD, reduceLeDiff → sE, reduceEqDiff → sF, reduceBEq → sG
open Int renaming reduceAdd → sH, reduceSub → sI, reduceMul → sJ, reduceLT → sK, reduceLE → sL, reduceNeg → sM, reduceToNat → sN, reduceEq → sO
set_option maxHeartbeats 8000000
set_option maxRecDepth 100000
theorem fLen_ds {e : Nat} {ds : List Int} : fLen (.sl e) (.p (dsV ds)) = some (.pure (i64 ds.length)) := by
  cases ds with
  | nil => rfl
  | cons x l => show some _ = _; simp
end AM.Try
end
/- The abstract machine, part 46: functions whose result is a new struct. -/
section
namespace AM
open Go
def viewFL (os : Nat → Option AO) : List AV → Option (List AV)
  | [] => some []
  | x :: r => match viewF 0 os x, viewFL os r with | some y, some ys => some (y :: ys) | _, _ => none
theorem viewFL_nil {os : Nat → Option AO} : viewFL os [] = some [] := rfl
theorem viewFL_cons {os : Nat → Option AO} {x y : AV} {r ys : List AV} (h1 : viewF 0 os x = some y) (h2 : viewFL os r = some ys) : viewFL os (x :: r) = some (y :: ys) := by simp only [viewFL, h1, h2]
theorem viewFL_get {os : Nat → Option AO} : ∀ {l l' : List AV}, viewFL os l = some l' → l'.length = l.length ∧ ∀ (i : Nat) (y : AV), l'[i]? = some y → ∃ x, l[i]? = some x ∧ viewF 0 os x = some y
  | [], l', h => by simp only [viewFL, Option.some.injEq] at h; subst h; exact ⟨rfl, fun i y hy => by simp at hy⟩
  | x :: r, l', h => by
    simp only [viewFL] at h
    cases h1 : viewF 0 os x with
    | none => simp [h1] at h
    | some y =>
      cases h2 : viewFL os r with
      | none => simp [h1, h2] at h
      | some ys =>
        simp only [h1, h2, Option.some.injEq] at h
        subst h
        obtain ⟨h3, h4⟩ := viewFL_get h2
        refine ⟨by simp [h3], fun i z hz => ?_⟩
        cases i with
        | zero => simp at hz; subst hz; exact ⟨x, by simp, h1⟩
        | succ i => simpa using h4 i z (by simpa using hz)
def RetFC (P : Program) (i : Nat) (ty : TypeId) (res : AV) : AEx → St → Prop
  | .exit _, _ => False
  | _, s => ∃ n off g cs xs ys, s.t i = .ptr n off ∧ (tyOf P ty).agg = some g ∧ s.o n = some (.cells cs) ∧ takeCells g (tyOf P ty).sz (cs.drop off) = some (.agg xs) ∧ viewFL s.o xs = some ys ∧ res = .agg ys
theorem RetFC_ret {P : Program} {i : Nat} {ty : TypeId} {res : AV} {s : St} : RetFC P i ty res .ret s = ∃ n off g cs xs ys, s.t i = .ptr n off ∧ (tyOf P ty).agg = some g ∧ s.o n = some (.cells cs) ∧ takeCells g (tyOf P ty).sz (cs.drop off) = some (.agg xs) ∧ viewFL s.o xs = some ys ∧ res = .agg ys := rfl
theorem fcallc_mk {v q : List Nat} {P : Program} {f : FuncId} {fn : Func} {body : Code} {args : List AV} {res : AV} {N i : Nat} {ty : TypeId} (hf : P.funcs[f]? = some fn) (hb : fn.body = some body) (hN : fn.ntmps = N) (hi : fn.results.toList = [.cell i ty]) (hargs : args.all AV.isP = true) (hres : res.isP = true)
    (h : AWP P ⟨⟨none, fun _ => False⟩, 0, v, q⟩ N body ⟨T (ixs 0 args), O []⟩ (RetFC P i ty res)) : FCall P f args res := by
  subst hN
  rw [← init_ixs] at h
  refine ⟨hres, fun θ M w vs hM hsz hrel => ?_⟩
  refine calls_of_wp hf hb ((wpIn_wide (n := 0)).1 ?_)
  have hH : SRel 0 w.heap.size (fun _ => False) θ M w (Hp fun _ => none) a0 :=
    ⟨Nat.zero_le _, fun _ => .undef _, (fun n o hn => by cases hn), (fun n o hn => by cases hn), (fun n m hn => by cases hn), Nat.le_refl _, hM, ⟨fun _ => AV.lives_undef _, (fun m o hm => by cases hm)⟩⟩
  have h0 := hH.start (fn := fn) hsz hrel (fun i x hx => lives_isP _ (List.all_eq_true.1 hargs x (List.mem_of_getElem? hx)))
  refine wpIn_mono (h _ _ θ M w _ h0) ?_
  rintro e a' w' ⟨ae, st', rfl, hr, ⟨θ', M', hs', hk, ht, hm⟩, hd⟩
  have hoth : Others st' θ' (fun b => b < w.heap.size) := others_blk hs' (fun _ h => h) (fun _ h => h)
  have key : ∀ n off g cs xs ys, st'.t i = .ptr n off → (tyOf P ty).agg = some g → st'.o n = some (.cells cs) → takeCells g (tyOf P ty).sz (cs.drop off) = some (.agg xs) → viewFL st'.o xs = some ys → res = .agg ys →
      ∃ v, (results fn a'.tmps).run P w' = .ok v w' ∧ ∃ v', Ending.returned v = .returned v' ∧ ARel θ (fun b => b < w.heap.size) w' res v' ∧ Keeps (fun b => w.heap.size ≤ b) w w' := by
    intro n off g cs xs ys k1 k2 k3 k4 k5 k6
    have hv := rel_ptr (hs'.tm i) k1
    have hc := (cellsAt_obj hs' k3).drop off
    rw [Nat.zero_add] at hc
    obtain ⟨v, hrun, hrel⟩ := hc.load k2 k4
    have hvr : ARel θ' (fun b => b < w.heap.size) w' res v := by
      subst k6
      obtain ⟨hl, hg⟩ := viewFL_get k5
      cases hrel with
      | agg _ vs hs hone hr =>
        refine .agg ys vs (by rw [hl]; exact hs) (fun i hi => hone i (by rw [← hl]; exact hi)) (fun i z hz => ?_)
        obtain ⟨x, h1, h2⟩ := hg i z hz
        exact (viewF_rel hs' hoth (hr i x h1) h2).1
    have hrr : (results fn a'.tmps).run P w' = .ok v w' := by
      have hus' : (fn.results.mapM (resSem a'.tmps)).run P w' = .ok #[v] w' := by
        rw [Array.mapM_eq_mapM_toList, Sem.run_map, hi]
        simp [resSem, hv, asAddr, hrun]
      rw [results_eq]
      simp only [Sem.run_bind, hus', Result.andThen_ok, Sem.run_pure]
      rfl
    exact ⟨v, hrr, _, rfl, hvr.nameless θ hres, hk.mono (fun b hb => hb.elim id False.elim)⟩
  cases ae with
  | normal =>
    obtain ⟨n, off, g, cs, xs, ys, k1, k2, k3, k4, k5, k6⟩ := hr
    exact ⟨hd, key n off g cs xs ys k1 k2 k3 k4 k5 k6⟩
  | ret =>
    obtain ⟨n, off, g, cs, xs, ys, k1, k2, k3, k4, k5, k6⟩ := hr
    exact ⟨hd, key n off g cs xs ys k1 k2 k3 k4 k5 k6⟩
  | exit j => exact hr.elim
end AM
end
/- The law's own copy of an account is new. -/
section
namespace AM.Try
open Go AM AM.Duty
open Nat renaming reduceLT → sA, reduceAdd → sB, reduceMul → sC, reduceSub → sD, reduceLeDiff → sE, reduceEqDiff → sF, reduceBEq → sG
open Int renaming reduceAdd → sH, reduceSub → sI, reduceMul → sJ, reduceLT → sK, reduceLE → sL, reduceNeg → sM, reduceToNat → sN, reduceEq → sO
set_option maxHeartbeats 8000000
set_option maxRecDepth 100000
theorem viewF_i {os : Nat → Option AO} {n : Int} : viewF 0 os (i64 n) = some (i64 n) := rfl
theorem encE_isVal (l : List Entry) : ((l.map encE).all fun e => e.all PV.isVal) = true := by
  rw [List.all_eq_true]
  intro x hx
  obtain ⟨n, _, rfl⟩ := List.mem_map.1 hx
  rfl
theorem encR_isVal (l : List Rate) : ((l.map encR).all fun e => e.all PV.isVal) = true := by
  rw [List.all_eq_true]
  intro x hx
  obtain ⟨n, _, rfl⟩ := List.mem_map.1 hx
  rfl
theorem c22f (a : Acc) (h1 : a.rates.length < 1000000) (h2 : a.entries.length < 1000000) : FCall Go.Proofs.Try.prog 22 [avA a] (avA a) := by
  refine fcallc_mk (v := []) (q := []) (N := 69) (i := 2) (ty := 35) Go.Proofs.Try.func22 rfl rfl rfl rfl rfl ?_
  refine awp_seq_k fun K1 hK1 => ?_
  refine awp_ops ?_
  simp (disch := omega) only [amL, amT, sA, sB, sF, ↓reduceIte]
  refine hK1 _ ?_
  refine awp_seq_k fun K2 hK2 => ?_
  refine awp_ops ?_
  simp (disch := omega) only [amL, amT, sA, sB, sE, sF, ↓reduceIte, reduceCtorEq]
  refine hK2 _ ?_
  refine awp_seq_k fun K3 hK3 => ?_
  refine awp_seq_k fun K4 hK4 => ?_
  refine awp_ops ?_
  simp (disch := omega) only [amL, sA]
  refine hK4 _ ?_
  refine awp_block ?_
  refine awp_adoptC' 39 2 3 4 (by decide) rfl rfl rfl ?_
  refine awp_loop_k (α := Nat) (fun k => ⟨T [(1, .ptr 1 0), (2, .ptr 2 0), (3, .ptr 3 0), (4, i64 k)], O [(1, .cells (cA a)), (2, .cells [i64 0, i64 0, i64 0, i64 0, .p (.val (.slice none 0 0)), .p (.val (.slice none 0 0))]), (3, .cells [i64 a.last, i64 a.interest, i64 a.bond, i64 a.purse, .own 39 k, .p (.val (.slice none 0 0))]), (39, .arr 2 ((a.rates.take k).map encR))]⟩) (fun k => a.rates.length - k) (fun k => k ≤ a.rates.length) 0 ?_ ?_ (fun k hx5 K5 hK5 => ?_)
  · simp
  · refine le_mk ?_ ?_ ?_ ?_ <;> (try simp (disch := omega) only [amL, sF, sG, ↓reduceIte])
  skip
  refine awp_seq_k fun K6 hK6 => ?_
  refine awp_seq_k fun K7 hK7 => ?_
  refine awp_ops ?_
  simp (disch := omega) only [amL, amT, sA, sF, ↓reduceIte, reduceCtorEq]
  refine hK7 _ ?_
  refine awp_cond rfl (fun h => ?_) (fun h => ?_)
  ·first
   | exact Bool.noConfusion h
   |skip
    try simp only [decide_eq_true_eq] at h
    refine awp_skip ?_
    refine hK6 _ ?_
    refine awp_seq_k fun K8 hK8 => ?_
    refine awp_block ?_
    refine awp_any2 (by kernel_rfl) (by kernel_rfl) ?_
    simp (disch := omega) only [encR_getD, amL, amT, sA, sB, sC, sE, sF, ↓reduceIte, reduceCtorEq]
    refine hK8 _ ?_
    refine awp_ops ?_
    simp (disch := omega) only [amL, amT, sA, sF, ↓reduceIte]
    refine hK5 (k+1) _ ?_ ?_ (le_mk ?_ ?_ ?_ ?_)
    all_goals (try simp (disch := omega) only [amL, sF, sG, ↓reduceIte])
    all_goals first | omega | rw [take_snoc encR default (by omega)]
  ·first
   | exact Bool.noConfusion h
   |skip
    try simp only [decide_eq_false_iff_not] at h
    refine awp_exit ?_
    refine hK3 _ ?_
    refine awp_seq_k fun K9 hK9 => ?_
    refine awp_seq_k fun K10 hK10 => ?_
    refine awp_ops ?_
    simp (disch := omega) only [amL, sA]
    refine hK10 _ ?_
    refine awp_block ?_
    refine awp_adoptC' 66 5 3 5 (by decide) rfl rfl rfl ?_
    refine awp_loop_k (α := Nat) (fun j => ⟨T [(2, .ptr 2 0), (1, .ptr 1 0), (3, .ptr 3 0), (5, i64 j)], O [(1, .cells (cA a)), (2, .cells [i64 0, i64 0, i64 0, i64 0, .p (.val (.slice none 0 0)), .p (.val (.slice none 0 0))]), (3, .cells [i64 a.last, i64 a.interest, i64 a.bond, i64 a.purse, .own 39 k, .own 66 j]), (39, .arr 2 ((a.rates.take k).map encR)), (66, .arr 5 ((a.entries.take j).map encE))]⟩) (fun j => a.entries.length - j) (fun j => j ≤ a.entries.length) 0 ?_ ?_ (fun j hx11 K11 hK11 => ?_)
    · simp
    · refine le_mk ?_ ?_ ?_ ?_ <;> (try simp (disch := omega) only [amL, sF, sG, ↓reduceIte])
    skip
    refine awp_seq_k fun K12 hK12 => ?_
    refine awp_seq_k fun K13 hK13 => ?_
    refine awp_ops ?_
    simp (disch := omega) only [amL, amT, sA, sF, ↓reduceIte, reduceCtorEq]
    refine hK13 _ ?_
    refine awp_cond rfl (fun h => ?_) (fun h => ?_)
    ·first
     | exact Bool.noConfusion h
     |skip
      try simp only [decide_eq_true_eq] at h
      refine awp_skip ?_
      refine hK12 _ ?_
      refine awp_seq_k fun K14 hK14 => ?_
      refine awp_block ?_
      refine awp_seq_k fun K15 hK15 => ?_
      refine awp_ops ?_
      simp (disch := omega) only [encE_getD, amL, amT, sA, sB, sF, ↓reduceIte, reduceCtorEq]
      refine hK15 _ ?_
      refine awp_any2 (by kernel_rfl) (by kernel_rfl) ?_
      simp (disch := omega) only [amL, amT, sA, sB, sE, sF, ↓reduceIte, reduceCtorEq]
      repeat' first | (refine EC_intro (by kernel_rfl) rfl (c35 _ _) (by first | exact .inl rfl | exact .inr (.inl rfl)) ?_ ; simp (disch := omega) only [amL, amT, sA, sB, sC, sE, sF, ↓reduceIte, reduceCtorEq])
      refine hK14 _ ?_
      refine awp_ops ?_
      simp (disch := omega) only [amL, amT, sA, sF, ↓reduceIte]
      refine hK11 (j+1) _ ?_ ?_ (le_mk ?_ ?_ ?_ ?_)
      all_goals (try simp (disch := omega) only [amL, sF, sG, ↓reduceIte])
      all_goals first | omega | rw [take_snoc encE default (by omega)]
    ·first
     | exact Bool.noConfusion h
     |skip
      try simp only [decide_eq_false_iff_not] at h
      refine awp_exit ?_
      refine hK9 _ ?_
      refine awp_seq_k fun K16 hK16 => ?_
      refine awp_ops ?_
      simp (disch := omega) only [amL, amT, sB, sF, ↓reduceIte]
      refine hK16 _ ?_
      refine awp_ret ?_
      try simp (disch := omega) only [encE_getD, encR_getD, amL, amT, sA, sB, sC, sD, sE, sF, sG, sH, sI, sJ, sK, sL, sM, sN, sO, ↓reduceIte, reduceCtorEq]
      (have e : k = a.rates.length := by omega); (have e2 : j = a.entries.length := by omega); subst e e2; rw [List.take_length, List.take_length]; rw [RetFC_ret]; refine ⟨2, 0, _, _, _, _, rfl, (by simp only [amT]; rfl), rfl, (by simp only [amT]; rfl), viewFL_cons viewF_i (viewFL_cons viewF_i (viewFL_cons viewF_i (viewFL_cons viewF_i (viewFL_cons (viewF_own rfl (by simp) (encR_isVal _)) (viewFL_cons (viewF_own rfl (by simp) (encE_isVal _)) viewFL_nil))))), ?_⟩; rw [List.take_of_length_le (by simp), List.take_of_length_le (by simp)]
end AM.Try
end
/- The law of order. -/
section
namespace AM.Try
open Go AM AM.Duty
open Nat renaming reduceLT → sA, reduceAdd → sB, reduceMul → sC, reduceSub → sD, reduceLeDiff → sE, reduceEqDiff → sF, reduceBEq → sG
open Int renaming reduceAdd → sH, reduceSub → sI, reduceMul → sJ, reduceLT → sK, reduceLE → sL, reduceNeg → sM, reduceToNat → sN, reduceEq → sO
set_option maxHeartbeats 8000000
set_option maxRecDepth 100000
theorem valid_in {x : Acc} (hf : faultS x = 0) : ∀ e ∈ x.entries, inR e.lo = true ∧ inR e.hi = true := fun e he => by
  have h := isEntry_small (List.all_eq_true.1 (fault_zero hf).2.2.2.2.1 e he)
  simp only [inR, Bool.and_eq_true, decide_eq_true_eq]; omega
theorem nat_lt_zero (j : Nat) : ((j : Int) < 0) = False := eq_false (by omega)
end AM.Try
end
/- The law of wider ranges. -/
section
namespace AM.Try
open Go AM AM.Duty
open Nat renaming reduceLT → sA, reduceAdd → sB, reduceMul → sC, reduceSub → sD, reduceLeDiff → sE, reduceEqDiff → sF, reduceBEq → sG
open Int renaming reduceAdd → sH, reduceSub → sI, reduceMul → sJ, reduceLT → sK, reduceLE → sL, reduceNeg → sM, reduceToNat → sN, reduceEq → sO
set_option maxHeartbeats 8000000
set_option maxRecDepth 100000
abbrev loW (lo b : Int) : Int := if 0 < lo - b % 3 then lo - b % 3 else 0
abbrev hiW (hi b : Int) : Int := if hi + b / 4 % 3 < 50 then hi + b / 4 % 3 else 50
abbrev wiE (e : Entry) (b : Int) : Entry := { e with lo := loW e.lo b, hi := hiW e.hi b }
abbrev wiA (a : Acc) (j : Nat) (b : Int) : Acc := { a with entries := a.entries.set j (wiE (getE a.entries j) b) }
theorem wi_wid {a : Acc} (hf : faultS a = 0) {j : Nat} (hj : j < a.entries.length) {b : Int} (_ : 0 ≤ b) : wid a.entries (wiA a j b).entries := by
  have h : 0 ≤ (getE a.entries j).lo ∧ (getE a.entries j).lo ≤ (getE a.entries j).hi ∧ (getE a.entries j).hi ≤ 50 := isEntry_small (List.all_eq_true.1 (fault_zero hf).2.2.2.2.1 _ (getD_mem default hj))
  refine wid_set hj ⟨rfl, rfl, rfl, ?_, ?_⟩
  · show loW _ _ ≤ _; unfold loW; split <;> omega
  · show _ ≤ hiW _ _; unfold hiW; split <;> omega
theorem c17 (a : Acc) (c b : Nat) (hin : AccIn a) (h2 : c < 256) (h3 : b < 256) : PCall Go.Proofs.Try.prog 17 [avA a, .p (.val (.int .u8 (c : Int))), .p (.val (.int .u8 (b : Int)))] (bl true) := by
  refine pcall_mk (v := []) (q := []) (N := 168) (rs := [.tmp 6]) Go.Proofs.Try.func17 rfl rfl rfl rfl rfl ?_
  have bA := bA4 a
  have lA := lA6 a
  have hin' := in_of hin
  have htk0 : (a.entries.map encE).take a.entries.length = a.entries.map encE := List.take_of_length_le (by simp)
  have hwr2 : IntKind.i64.wrap (c : Int) = (c : Int) := wrap64 (by omega) (by omega)
  have hwr3 : IntKind.i64.wrap (b : Int) = (b : Int) := wrap64 (by omega) (by omega)
  cases hr : readyS a <;> by_cases hlen : (a.entries.length : Int) = 0
  all_goals
    first
    | (have hrr : thinS a = true ∧ faultS a = 0 := by simpa [readyS] using hr
       obtain ⟨ht, hf⟩ := hrr
       obtain ⟨hl1, hl2⟩ := thin_len ht
       have hla := last_in hf
       have hm : ((a.last + 1).toNat : Int) = a.last + 1 := Int.toNat_of_nonneg (by omega))
    | (have hf := hwr3; have hm := hwr3)
    first
    | (have hkm : c % a.entries.length < a.entries.length := Nat.mod_lt _ (by omega)
       have hmod : (c : Int) % (a.entries.length : Int) = ((c % a.entries.length : Nat) : Int) := by rw [Int.natCast_emod]
       generalize c % a.entries.length = j at hkm hmod
       have hsm : 0 ≤ (getE a.entries j).lo ∧ (getE a.entries j).lo ≤ (getE a.entries j).hi ∧ (getE a.entries j).hi ≤ 50 := isEntry_small (List.all_eq_true.1 (fault_zero hf).2.2.2.2.1 _ (getD_mem default hkm))
       have hw := wi_wid hf hkm (b := (b : Int)) (by omega)
       have hfl : (wiA a j (b : Int)).entries.length = a.entries.length := wid_len hw
       have htk : ((wiA a j (b : Int)).entries.map encE).take a.entries.length = (wiA a j (b : Int)).entries.map encE := List.take_of_length_le (by rw [List.length_map, hfl]; exact Nat.le_refl _)
       have bB := bA4 (wiA a j (b : Int))
       have lB := lA6 (wiA a j (b : Int))
       by_cases hk0 : (getE a.entries j).kind = 0 <;> by_cases hfx : faultS (wiA a j (b : Int)) = 0 <;> cases hp : (truthsR a).isEmpty <;> cases hpx : (truthsR (wiA a j (b : Int))).isEmpty)
    | (have hmod := hwr3; have hk0 := hwr3; have htk := hwr3; have bB := hwr3; have lB := hwr3; have hfx := hwr3; have hp := hwr3; have hpx := hwr3)
  all_goals
    try (exfalso
         obtain ⟨t, ht⟩ := some_of_not_empty hp
         have := not_empty (wid_truth hf hw hfx ht)
         rw [hpx] at this; exact absurd this (by decide))
  all_goals
    first
    | (have hx : (getE a.entries j).kind = 0 := hk0
       have hs0 : encE (wiE (getE a.entries j) (b : Int)) = [iv 0, iv (getE a.entries j).day, iv (if 0 < (getE a.entries j).lo - (b : Int) % 3 then (getE a.entries j).lo - (b : Int) % 3 else 0), iv (if (getE a.entries j).hi + (b : Int) / 4 % 3 < 50 then (getE a.entries j).hi + (b : Int) / 4 % 3 else 50), iv (getE a.entries j).pence] := by
         show [iv (getE a.entries j).kind, _, _, _, _] = _
         rw [hx]
       have hs1 : (a.entries.map encE).set j [iv 0, iv (getE a.entries j).day, iv (if 0 < (getE a.entries j).lo - (b : Int) % 3 then (getE a.entries j).lo - (b : Int) % 3 else 0), iv (if (getE a.entries j).hi + (b : Int) / 4 % 3 < 50 then (getE a.entries j).hi + (b : Int) / 4 % 3 else 50), iv (getE a.entries j).pence] = (wiA a j (b : Int)).entries.map encE := by
         rw [← hs0]; exact List.map_set.symm)
    | have hs1 := hwr3
    first
    | (have hlw : (lvR (wiA a j (b : Int))).length ≤ (lvR a).length := wid_leave hf hw hfx (lvR_some hf) (lvR_some hfx)
       have hlf : (((lvR a).length : Int) < ((lvR (wiA a j (b : Int))).length : Int)) = False := eq_false (by omega)
       have hin2 := valid_in hfx)
    | (have hlf := hwr3; have hin2 := hwr3)
    first
    | (have hx : (truthsR a).isEmpty = true := hp
       obtain ⟨bv, hbv⟩ : ∃ bv : PV, bv = .val (.slice none 0 0) := ⟨_, rfl⟩
       obtain ⟨nB, hnB⟩ : ∃ nB : Nat, nB = 0 := ⟨_, rfl⟩)
    | (have hx : (truthsR a).isEmpty = false := hp
       obtain ⟨bv, hbv⟩ : ∃ bv : PV, bv = .sl (bndE a) := ⟨_, rfl⟩
       obtain ⟨nB, hnB⟩ : ∃ nB : Nat, nB = (a.last + 1).toNat := ⟨_, rfl⟩)
    | have hbv := hwr3
    first
    | (have hx : ¬ (getE a.entries j).kind = 0 := hk0
       obtain ⟨bx, hbx⟩ : ∃ bx : PV, bx = bv := ⟨_, rfl⟩)
    | (have hx : (truthsR (wiA a j (b : Int))).isEmpty = true := hpx
       obtain ⟨bx, hbx⟩ : ∃ bx : PV, bx = .val (.slice none 0 0) := ⟨_, rfl⟩)
    | (have hx : (truthsR (wiA a j (b : Int))).isEmpty = false := hpx
       obtain ⟨bx, hbx⟩ : ∃ bx : PV, bx = .sl (bndE (wiA a j (b : Int))) := ⟨_, rfl⟩)
    | have hbx := hwr3
  all_goals
    refine awp_seq_k fun K1 hK1 => ?_
    refine awp_ops ?_
    simp (disch := omega) only [amL, sA, sB, ↓reduceIte]
    refine hK1 _ ?_
    refine awp_seq_k fun K2 hK2 => ?_
    refine awp_seq_k fun K3 hK3 => ?_
    refine awp_ops ?_
    simp (disch := omega) only [amL, amT, sA, sB, sF, ↓reduceIte]
    repeat' first | (refine EG_dec (fun h => ?_) (fun h => ?_) <;> simp (disch := omega) only [h, htk0, bA, lA, bB, lB, hr, hf, hm, hlen, hp, hpx, hwr2, hwr3, hmod, hk0, hfx, hlf, hbv, hbx, nat_lt_zero, Int.lt_irrefl, fLen_ds, encE_all, encE_getD, List.length_range, ne_eq, amL, amT, sA, sB, sC, sD, sE, sF, sG, sH, sI, sJ, sK, sL, sM, sN, sO, ↓reduceIte, reduceCtorEq]) | (refine EG_cases (fun h => ?_) (fun h => ?_) <;> simp (disch := omega) only [h, htk0, bA, lA, bB, lB, hr, hf, hm, hlen, hp, hpx, hwr2, hwr3, hmod, hk0, hfx, hlf, hbv, hbx, nat_lt_zero, Int.lt_irrefl, fLen_ds, encE_all, encE_getD, List.length_range, ne_eq, amL, amT, sA, sB, sC, sD, sE, sF, sG, sH, sI, sJ, sK, sL, sM, sN, sO, ↓reduceIte, reduceCtorEq]) | (refine EC_intro (by kernel_rfl) rfl (c46 a) (by first | exact .inl rfl | exact .inr (.inl rfl)) ?_ ; simp (disch := omega) only [hr, hlen, amL, amT, sA, sF, ↓reduceIte, reduceCtorEq])
    all_goals
     skip
     refine hK3 _ ?_
     refine awp_cond rfl (fun h => ?_) (fun h => ?_)
     ·first
      | exact Bool.noConfusion h
      |skip
       try simp only [] at h
       refine awp_seq_k fun K4 hK4 => ?_
       refine awp_ops ?_
       simp (disch := omega) only [amL]
       repeat' first | (refine EC_intro (by kernel_rfl) rfl (c20) (by first | exact .inl rfl | exact .inr (.inl rfl)) ?_ ; simp (disch := omega) only [amL, sA, ↓reduceIte])
       refine hK4 _ ?_
       refine awp_ret ?_
       try simp (disch := omega) only [amL, ↓reduceIte]
       all_goals first | rfl | (omega)
     ·first
      | exact Bool.noConfusion h
      |skip
       try simp only [] at h
       refine awp_skip ?_
       refine hK2 _ ?_
       refine awp_seq_k fun K5 hK5 => ?_
       refine awp_ops ?_
       simp (disch := omega) only [amL, amT, sA, sB, sF, ↓reduceIte]
       refine hK5 _ ?_
       refine awp_seq_k fun K6 hK6 => ?_
       refine awp_ops ?_
       simp (disch := omega) only [encE_all, amL, amT, sA, sB, sF, ↓reduceIte, reduceCtorEq]
       refine hK6 _ ?_
       refine awp_seq_k fun K7 hK7 => ?_
       refine awp_seq_k fun K8 hK8 => ?_
       refine awp_any2 (by kernel_rfl) (by kernel_rfl) ?_
       simp (disch := omega) only [hlen, hwr2, hmod, amL, amT, sA, sF, ↓reduceIte, reduceCtorEq]
       refine hK8 _ ?_
       refine awp_seq_k fun K9 hK9 => ?_
       refine awp_ops ?_
       simp (disch := omega) only [hk0, encE_getD, amL, amT, sA, sF, ↓reduceIte, reduceCtorEq]
       refine hK9 _ ?_
       refine awp_cond rfl (fun h => ?_) (fun h => ?_)
       ·first
        | exact Bool.noConfusion h
        |skip
         try simp only [] at h
         refine awp_any2 (by kernel_rfl) (by kernel_rfl) ?_
         simp (disch := omega) only [hs1, hwr3, hk0, encE_getD, amL, amT, sA, sB, sE, sF, sO, ↓reduceIte, reduceCtorEq]
         refine hK7 _ ?_
         refine awp_seq_k fun K10 hK10 => ?_
         refine awp_seq_k fun K11 hK11 => ?_
         refine awp_ops ?_
         simp (disch := omega) only [htk, List.length_set, amL, amT, sA, sB, sF, ↓reduceIte]
         repeat' first | (refine EC_intro (by kernel_rfl) rfl (by first | exact c24 a (by omega) (by omega) | exact c24 (wiA a j (b : Int)) (Nat.lt_of_le_of_lt hl1 (by decide)) (by omega)) (by first | exact .inl rfl | exact .inr (.inl rfl)) ?_ ; simp (disch := omega) only [hfx, ne_eq, amL, amT, sA, ↓reduceIte])
         refine hK11 _ ?_
         refine awp_cond rfl (fun h => ?_) (fun h => ?_)
         ·first
          | exact Bool.noConfusion h
          |skip
           try simp only [] at h
           refine awp_seq_k fun K12 hK12 => ?_
           refine awp_ops ?_
           simp (disch := omega) only [amL]
           repeat' first | (refine EC_intro (by kernel_rfl) rfl (c20) (by first | exact .inl rfl | exact .inr (.inl rfl)) ?_ ; simp (disch := omega) only [amL, sA, ↓reduceIte])
           refine hK12 _ ?_
           refine awp_ret ?_
           try simp (disch := omega) only [amL, ↓reduceIte]
           all_goals first | rfl | (omega)
         ·first
          | exact Bool.noConfusion h
          |skip
           try simp only [] at h
           refine awp_skip ?_
           refine hK10 _ ?_
           refine awp_seq_k fun K13 hK13 => ?_
           refine awp_ops ?_
           simp (disch := omega) only [amL, amT, sA, sB, sF, ↓reduceIte]
           repeat' first | (refine EF_intro (by kernel_rfl) rfl (by first | exact c22f a (by omega) (by omega) | exact c22f (wiA a j (b : Int)) (Nat.lt_of_le_of_lt hl1 (by decide)) (by omega)) ?_ ; simp (disch := omega) only [amL, ↓reduceIte]) | (refine EC_intro (by kernel_rfl) rfl (by first | exact c42 a (by omega) (by omega) hin' | exact c42 (wiA a j (b : Int)) (Nat.lt_of_le_of_lt hl1 (by decide)) (by omega) hin2) (by first | exact .inl rfl | exact .inr (.inl rfl)) ?_ ; simp (disch := omega) only [lA, hf, amL, sA, sF, ↓reduceIte])
           refine hK13 _ ?_
           refine awp_seq_k fun K14 hK14 => ?_
           refine awp_ops ?_
           simp (disch := omega) only [htk, List.length_set, amL, amT, sA, sB, sF, ↓reduceIte]
           repeat' first | (refine EF_intro (by kernel_rfl) rfl (by first | exact c22f a (by omega) (by omega) | exact c22f (wiA a j (b : Int)) (Nat.lt_of_le_of_lt hl1 (by decide)) (by omega)) ?_ ; simp (disch := omega) only [amL, ↓reduceIte]) | (refine EC_intro (by kernel_rfl) rfl (by first | exact c42 a (by omega) (by omega) hin' | exact c42 (wiA a j (b : Int)) (Nat.lt_of_le_of_lt hl1 (by decide)) (by omega) hin2) (by first | exact .inl rfl | exact .inr (.inl rfl)) ?_ ; simp (disch := omega) only [lB, hfx, amL, sA, sF, ↓reduceIte])
           refine hK14 _ ?_
           refine awp_seq_k fun K15 hK15 => ?_
           refine awp_ops ?_
           simp (disch := omega) only [amL, amT, sA, sB, sF, ↓reduceIte]
           repeat' first | (refine EF_intro (by kernel_rfl) rfl (by first | exact c22f a (by omega) (by omega) | exact c22f (wiA a j (b : Int)) (Nat.lt_of_le_of_lt hl1 (by decide)) (by omega)) ?_ ; simp (disch := omega) only [amL, ↓reduceIte]) | (refine EC_intro (by kernel_rfl) rfl (by first | exact c30 a (by omega) (by omega) hin' | exact c30 (wiA a j (b : Int)) (Nat.lt_of_le_of_lt hl1 (by decide)) (by omega) hin2) (by first | exact .inl rfl | exact .inr (.inl rfl)) ?_ ; simp (disch := omega) only [bA, hf, hp, amL, sA, sF, ↓reduceIte])
           refine hK15 _ ?_
           refine awp_seq_k fun K16 hK16 => ?_
           refine awp_ops ?_
           simp (disch := omega) only [htk, List.length_set, amL, amT, sA, sB, sF, ↓reduceIte]
           repeat' first | (refine EF_intro (by kernel_rfl) rfl (by first | exact c22f a (by omega) (by omega) | exact c22f (wiA a j (b : Int)) (Nat.lt_of_le_of_lt hl1 (by decide)) (by omega)) ?_ ; simp (disch := omega) only [amL, ↓reduceIte]) | (refine EC_intro (by kernel_rfl) rfl (by first | exact c30 a (by omega) (by omega) hin' | exact c30 (wiA a j (b : Int)) (Nat.lt_of_le_of_lt hl1 (by decide)) (by omega) hin2) (by first | exact .inl rfl | exact .inr (.inl rfl)) ?_ ; simp (disch := omega) only [bB, hpx, hfx, amL, sA, sF, ↓reduceIte])
           refine hK16 _ ?_
           refine awp_seq_k fun K17 hK17 => ?_
           refine awp_seq_k fun K18 hK18 => ?_
           refine awp_ops ?_
           simp (disch := omega) only [hm, hlf, fLen_ds, List.length_range, ne_eq, amL, amT, sA, sF, sO, ↓reduceIte]
           repeat' first | (refine EG_dec (fun h => ?_) (fun h => ?_) <;> simp (disch := omega) only [h, htk0, bA, lA, bB, lB, hr, hf, hm, hlen, hp, hpx, hwr2, hwr3, hmod, hk0, hfx, hlf, hbv, hbx, nat_lt_zero, Int.lt_irrefl, fLen_ds, encE_all, encE_getD, List.length_range, ne_eq, amL, amT, sA, sB, sC, sD, sE, sF, sG, sH, sI, sJ, sK, sL, sM, sN, sO, ↓reduceIte, reduceCtorEq]) | (refine EG_cases (fun h => ?_) (fun h => ?_) <;> simp (disch := omega) only [h, htk0, bA, lA, bB, lB, hr, hf, hm, hlen, hp, hpx, hwr2, hwr3, hmod, hk0, hfx, hlf, hbv, hbx, nat_lt_zero, Int.lt_irrefl, fLen_ds, encE_all, encE_getD, List.length_range, ne_eq, amL, amT, sA, sB, sC, sD, sE, sF, sG, sH, sI, sJ, sK, sL, sM, sN, sO, ↓reduceIte, reduceCtorEq])
           all_goals
            skip
            refine hK18 _ ?_
            refine awp_cond rfl (fun h => ?_) (fun h => ?_)
            ·first
             | exact Bool.noConfusion h
             |skip
              try simp only [Bool.not_eq_true', decide_eq_true_eq, decide_eq_false_iff_not, Bool.and_eq_true, Bool.not_eq_false', Bool.not_not, decide_not, Bool.not_true, Bool.not_false] at h
              refine awp_seq_k fun K19 hK19 => ?_
              refine awp_ops ?_
              simp (disch := omega) only [htk0, bA, lA, bB, lB, hr, hf, hm, hlen, hp, hpx, hwr2, hwr3, hmod, hk0, hfx, hlf, hbv, hbx, nat_lt_zero, Int.lt_irrefl, fLen_ds, encE_all, encE_getD, List.length_range, ne_eq, amL, amT, sA, sB, sC, sD, sE, sF, sG, sH, sI, sJ, sK, sL, sM, sN, sO, ↓reduceIte, reduceCtorEq]
              refine hK19 _ ?_
              refine awp_ret ?_
              try simp (disch := omega) only [htk0, bA, lA, bB, lB, hr, hf, hm, hlen, hp, hpx, hwr2, hwr3, hmod, hk0, hfx, hlf, hbv, hbx, nat_lt_zero, Int.lt_irrefl, fLen_ds, encE_all, encE_getD, List.length_range, ne_eq, amL, amT, sA, sB, sC, sD, sE, sF, sG, sH, sI, sJ, sK, sL, sM, sN, sO, ↓reduceIte, reduceCtorEq]
              all_goals first | rfl | (omega)
            ·first
             | exact Bool.noConfusion h
             |skip
              try simp only [] at h
              refine awp_skip ?_
              refine hK17 _ ?_
              refine awp_seq_k fun K20 hK20 => ?_
              refine awp_seq_k fun K21 hK21 => ?_
              refine awp_ops ?_
              simp (disch := omega) only [amL, sA]
              refine hK21 _ ?_
              refine awp_block ?_
              skip
              refine awp_loop_k (α := Nat) (fun k => ⟨T [(13, .p bv), (15, .p bx), (17, i64 (k : Int))], O []⟩) (fun k => nB - k) (fun k => k ≤ nB) 0 ?_ ?_ (fun k hx22 K22 hK22 => ?_)
              · simp
              · refine le_mk ?_ ?_ ?_ ?_ <;> (try simp (disch := omega) only [hbv, hbx, amL, sF, ↓reduceIte]); all_goals first | rfl | (omega)
              have hk := hx22
              refine awp_seq_k fun K23 hK23 => ?_
              refine awp_seq_k fun K24 hK24 => ?_
              refine awp_ops ?_
              simp (disch := omega) only [hm, hbv, hbx, nat_lt_zero, List.length_range, amL, amT, sA, sF, ↓reduceIte]
              refine hK24 _ ?_
              refine awp_cond rfl (fun h => ?_) (fun h => ?_)
              ·first
               | exact Bool.noConfusion h
               |skip
                try simp only [decide_eq_true_eq] at h
                refine awp_skip ?_
                refine hK23 _ ?_
                refine awp_seq_k fun K25 hK25 => ?_
                refine awp_block ?_
                refine awp_seq_k fun K26 hK26 => ?_
                refine awp_any2 (by kernel_rfl) (by kernel_rfl) ?_
                first
                | (have q0 := wid_bnd hf hw hfx hp (k := k)
                   have q1 := q0 (by omega)
                   have hb1 : ((bndR a k (truthsR a)).1 < (bndR (wiA a j (b : Int)) k (truthsR (wiA a j (b : Int)))).1) = False := eq_false (by have q : (bndR (wiA a j (b : Int)) k (truthsR (wiA a j (b : Int)))).1 ≤ (bndR a k (truthsR a)).1 := q1.1; omega)
                   have hb2 : ((bndR (wiA a j (b : Int)) k (truthsR (wiA a j (b : Int)))).2 < (bndR a k (truthsR a)).2) = False := eq_false (by have q : (bndR a k (truthsR a)).2 ≤ (bndR (wiA a j (b : Int)) k (truthsR (wiA a j (b : Int)))).2 := q1.2; omega)
                   have hge : (bndE (wiA a j (b : Int))).getD k [] = [iv (bndR (wiA a j (b : Int)) k (truthsR (wiA a j (b : Int)))).1, iv (bndR (wiA a j (b : Int)) k (truthsR (wiA a j (b : Int)))).2] := bndE_getD (by show k < (a.last + 1).toNat; omega))
                | (have hb1 := hwr3; have hb2 := hwr3; have hge := hwr3)
                simp (disch := omega) only [List.length_map, List.length_range, bndE_getD, hge, hb1, hb2, hm, List.length_range, amL, amT, sA, sB, sF, ↓reduceIte, reduceCtorEq]
                repeat' first | (refine EG_dec (fun h => ?_) (fun h => ?_) <;> simp (disch := omega) only [h, List.length_map, List.length_range, bndE_getD, hge, hb1, hb2, htk0, bA, lA, bB, lB, hr, hf, hm, hlen, hp, hpx, hwr2, hwr3, hmod, hk0, hfx, hlf, hbv, hbx, nat_lt_zero, Int.lt_irrefl, fLen_ds, encE_all, encE_getD, List.length_range, ne_eq, amL, amT, sA, sB, sC, sD, sE, sF, sG, sH, sI, sJ, sK, sL, sM, sN, sO, ↓reduceIte, reduceCtorEq]) | (refine EG_cases (fun h => ?_) (fun h => ?_) <;> simp (disch := omega) only [h, List.length_map, List.length_range, bndE_getD, hge, hb1, hb2, htk0, bA, lA, bB, lB, hr, hf, hm, hlen, hp, hpx, hwr2, hwr3, hmod, hk0, hfx, hlf, hbv, hbx, nat_lt_zero, Int.lt_irrefl, fLen_ds, encE_all, encE_getD, List.length_range, ne_eq, amL, amT, sA, sB, sC, sD, sE, sF, sG, sH, sI, sJ, sK, sL, sM, sN, sO, ↓reduceIte, reduceCtorEq])
                all_goals
                 skip
                 refine hK26 _ ?_
                 refine awp_cond rfl (fun h => ?_) (fun h => ?_)
                 ·first
                  | exact Bool.noConfusion h
                  |skip
                   try simp only [Bool.not_eq_true', decide_eq_true_eq, decide_eq_false_iff_not, Bool.and_eq_true, Bool.not_eq_false', Bool.not_not, decide_not, Bool.not_true, Bool.not_false] at h
                   refine awp_seq_k fun K27 hK27 => ?_
                   refine awp_ops ?_
                   simp (disch := omega) only [htk0, bA, lA, bB, lB, hr, hf, hm, hlen, hp, hpx, hwr2, hwr3, hmod, hk0, hfx, hlf, hbv, hbx, nat_lt_zero, Int.lt_irrefl, fLen_ds, encE_all, encE_getD, List.length_range, ne_eq, amL, amT, sA, sB, sC, sD, sE, sF, sG, sH, sI, sJ, sK, sL, sM, sN, sO, ↓reduceIte, reduceCtorEq]
                   refine hK27 _ ?_
                   refine awp_ret ?_
                   try simp (disch := omega) only [htk0, bA, lA, bB, lB, hr, hf, hm, hlen, hp, hpx, hwr2, hwr3, hmod, hk0, hfx, hlf, hbv, hbx, nat_lt_zero, Int.lt_irrefl, fLen_ds, encE_all, encE_getD, List.length_range, ne_eq, amL, amT, sA, sB, sC, sD, sE, sF, sG, sH, sI, sJ, sK, sL, sM, sN, sO, ↓reduceIte, reduceCtorEq]
                   all_goals first | rfl | (omega)
                 ·first
                  | exact Bool.noConfusion h
                  |skip
                   try simp only [] at h
                   refine awp_skip ?_
                   refine hK25 _ ?_
                   refine awp_ops ?_
                   simp (disch := omega) only [amL, amT, sA, sF, ↓reduceIte]
                   refine hK22 (k+1) _ ?_ ?_ (le_mk ?_ ?_ ?_ ?_)
                   all_goals (try simp (disch := omega) only [hbv, hbx, amL, sF, ↓reduceIte])
                   all_goals first | omega | (omega)
              ·first
               | exact Bool.noConfusion h
               |skip
                try simp only [decide_eq_false_iff_not] at h
                refine awp_exit ?_
                refine hK20 _ ?_
                refine awp_seq_k fun K28 hK28 => ?_
                refine awp_ops ?_
                simp (disch := omega) only [amL]
                repeat' first | (refine EC_intro (by kernel_rfl) rfl (c20) (by first | exact .inl rfl | exact .inr (.inl rfl)) ?_ ; simp (disch := omega) only [amL, sA, ↓reduceIte])
                refine hK28 _ ?_
                refine awp_ret ?_
                try simp (disch := omega) only [amL, ↓reduceIte]
                all_goals first | rfl | (omega)
       ·first
        | exact Bool.noConfusion h
        |skip
         try simp only [] at h
         refine awp_skip ?_
         refine hK7 _ ?_
         refine awp_seq_k fun K29 hK29 => ?_
         refine awp_seq_k fun K30 hK30 => ?_
         refine awp_ops ?_
         simp (disch := omega) only [htk0, amL, amT, sA, sB, sF, ↓reduceIte]
         repeat' first | (refine EC_intro (by kernel_rfl) rfl (by first | exact c24 a (by omega) (by omega) | exact c24 (wiA a j (b : Int)) (Nat.lt_of_le_of_lt hl1 (by decide)) (by omega)) (by first | exact .inl rfl | exact .inr (.inl rfl)) ?_ ; simp (disch := omega) only [hf, ne_eq, amL, amT, sA, ↓reduceIte])
         refine hK30 _ ?_
         refine awp_cond rfl (fun h => ?_) (fun h => ?_)
         ·first
          | exact Bool.noConfusion h
          |skip
           try simp only [Bool.not_eq_true', decide_eq_true_eq, decide_eq_false_iff_not, Bool.and_eq_true, Bool.not_eq_false', Bool.not_not, decide_not, Bool.not_true, Bool.not_false] at h
           refine awp_seq_k fun K31 hK31 => ?_
           refine awp_ops ?_
           simp (disch := omega) only [htk0, bA, lA, bB, lB, hr, hf, hm, hlen, hp, hpx, hwr2, hwr3, hmod, hk0, hfx, hlf, hbv, hbx, nat_lt_zero, Int.lt_irrefl, fLen_ds, encE_all, encE_getD, List.length_range, ne_eq, amL, amT, sA, sB, sC, sD, sE, sF, sG, sH, sI, sJ, sK, sL, sM, sN, sO, ↓reduceIte, reduceCtorEq]
           repeat' first | (refine EC_intro (by kernel_rfl) rfl (c20) (by first | exact .inl rfl | exact .inr (.inl rfl)) ?_ ; simp (disch := omega) only [htk0, bA, lA, bB, lB, hr, hf, hm, hlen, hp, hpx, hwr2, hwr3, hmod, hk0, hfx, hlf, hbv, hbx, nat_lt_zero, Int.lt_irrefl, fLen_ds, encE_all, encE_getD, List.length_range, ne_eq, amL, amT, sA, sB, sC, sD, sE, sF, sG, sH, sI, sJ, sK, sL, sM, sN, sO, ↓reduceIte, reduceCtorEq])
           refine hK31 _ ?_
           refine awp_ret ?_
           try simp (disch := omega) only [htk0, bA, lA, bB, lB, hr, hf, hm, hlen, hp, hpx, hwr2, hwr3, hmod, hk0, hfx, hlf, hbv, hbx, nat_lt_zero, Int.lt_irrefl, fLen_ds, encE_all, encE_getD, List.length_range, ne_eq, amL, amT, sA, sB, sC, sD, sE, sF, sG, sH, sI, sJ, sK, sL, sM, sN, sO, ↓reduceIte, reduceCtorEq]
           all_goals first | rfl | (omega)
         ·first
          | exact Bool.noConfusion h
          |skip
           try simp only [] at h
           refine awp_skip ?_
           refine hK29 _ ?_
           refine awp_seq_k fun K32 hK32 => ?_
           refine awp_ops ?_
           simp (disch := omega) only [amL, amT, sA, sB, sF, ↓reduceIte]
           repeat' first | (refine EF_intro (by kernel_rfl) rfl (by first | exact c22f a (by omega) (by omega) | exact c22f (wiA a j (b : Int)) (Nat.lt_of_le_of_lt hl1 (by decide)) (by omega)) ?_ ; simp (disch := omega) only [amL, ↓reduceIte]) | (refine EC_intro (by kernel_rfl) rfl (by first | exact c42 a (by omega) (by omega) hin' | exact c42 (wiA a j (b : Int)) (Nat.lt_of_le_of_lt hl1 (by decide)) (by omega) hin2) (by first | exact .inl rfl | exact .inr (.inl rfl)) ?_ ; simp (disch := omega) only [lA, hf, amL, sA, sF, ↓reduceIte])
           refine hK32 _ ?_
           refine awp_seq_k fun K33 hK33 => ?_
           refine awp_ops ?_
           simp (disch := omega) only [htk0, amL, amT, sA, sB, sF, ↓reduceIte]
           repeat' first | (refine EF_intro (by kernel_rfl) rfl (by first | exact c22f a (by omega) (by omega) | exact c22f (wiA a j (b : Int)) (Nat.lt_of_le_of_lt hl1 (by decide)) (by omega)) ?_ ; simp (disch := omega) only [amL, ↓reduceIte]) | (refine EC_intro (by kernel_rfl) rfl (by first | exact c42 a (by omega) (by omega) hin' | exact c42 (wiA a j (b : Int)) (Nat.lt_of_le_of_lt hl1 (by decide)) (by omega) hin2) (by first | exact .inl rfl | exact .inr (.inl rfl)) ?_ ; simp (disch := omega) only [lA, hf, amL, sA, sF, ↓reduceIte])
           refine hK33 _ ?_
           refine awp_seq_k fun K34 hK34 => ?_
           refine awp_ops ?_
           simp (disch := omega) only [amL, amT, sA, sB, sF, ↓reduceIte]
           repeat' first | (refine EF_intro (by kernel_rfl) rfl (by first | exact c22f a (by omega) (by omega) | exact c22f (wiA a j (b : Int)) (Nat.lt_of_le_of_lt hl1 (by decide)) (by omega)) ?_ ; simp (disch := omega) only [amL, ↓reduceIte]) | (refine EC_intro (by kernel_rfl) rfl (by first | exact c30 a (by omega) (by omega) hin' | exact c30 (wiA a j (b : Int)) (Nat.lt_of_le_of_lt hl1 (by decide)) (by omega) hin2) (by first | exact .inl rfl | exact .inr (.inl rfl)) ?_ ; simp (disch := omega) only [bA, hf, hp, amL, sA, sF, ↓reduceIte])
           refine hK34 _ ?_
           refine awp_seq_k fun K35 hK35 => ?_
           refine awp_ops ?_
           simp (disch := omega) only [htk0, amL, amT, sA, sB, sF, ↓reduceIte]
           repeat' first | (refine EF_intro (by kernel_rfl) rfl (by first | exact c22f a (by omega) (by omega) | exact c22f (wiA a j (b : Int)) (Nat.lt_of_le_of_lt hl1 (by decide)) (by omega)) ?_ ; simp (disch := omega) only [amL, ↓reduceIte]) | (refine EC_intro (by kernel_rfl) rfl (by first | exact c30 a (by omega) (by omega) hin' | exact c30 (wiA a j (b : Int)) (Nat.lt_of_le_of_lt hl1 (by decide)) (by omega) hin2) (by first | exact .inl rfl | exact .inr (.inl rfl)) ?_ ; simp (disch := omega) only [bA, hf, hp, amL, sA, sF, ↓reduceIte])
           refine hK35 _ ?_
           refine awp_seq_k fun K36 hK36 => ?_
           refine awp_seq_k fun K37 hK37 => ?_
           refine awp_ops ?_
           simp (disch := omega) only [hm, Int.lt_irrefl, fLen_ds, List.length_range, ne_eq, amL, amT, sA, sF, sO, ↓reduceIte]
           repeat' first | (refine EG_dec (fun h => ?_) (fun h => ?_) <;> simp (disch := omega) only [h, htk0, bA, lA, bB, lB, hr, hf, hm, hlen, hp, hpx, hwr2, hwr3, hmod, hk0, hfx, hlf, hbv, hbx, nat_lt_zero, Int.lt_irrefl, fLen_ds, encE_all, encE_getD, List.length_range, ne_eq, amL, amT, sA, sB, sC, sD, sE, sF, sG, sH, sI, sJ, sK, sL, sM, sN, sO, ↓reduceIte, reduceCtorEq]) | (refine EG_cases (fun h => ?_) (fun h => ?_) <;> simp (disch := omega) only [h, htk0, bA, lA, bB, lB, hr, hf, hm, hlen, hp, hpx, hwr2, hwr3, hmod, hk0, hfx, hlf, hbv, hbx, nat_lt_zero, Int.lt_irrefl, fLen_ds, encE_all, encE_getD, List.length_range, ne_eq, amL, amT, sA, sB, sC, sD, sE, sF, sG, sH, sI, sJ, sK, sL, sM, sN, sO, ↓reduceIte, reduceCtorEq])
           all_goals
            skip
            refine hK37 _ ?_
            refine awp_cond rfl (fun h => ?_) (fun h => ?_)
            ·first
             | exact Bool.noConfusion h
             |skip
              try simp only [Bool.not_eq_true', decide_eq_true_eq, decide_eq_false_iff_not, Bool.and_eq_true, Bool.not_eq_false', Bool.not_not, decide_not, Bool.not_true, Bool.not_false] at h
              refine awp_seq_k fun K38 hK38 => ?_
              refine awp_ops ?_
              simp (disch := omega) only [htk0, bA, lA, bB, lB, hr, hf, hm, hlen, hp, hpx, hwr2, hwr3, hmod, hk0, hfx, hlf, hbv, hbx, nat_lt_zero, Int.lt_irrefl, fLen_ds, encE_all, encE_getD, List.length_range, ne_eq, amL, amT, sA, sB, sC, sD, sE, sF, sG, sH, sI, sJ, sK, sL, sM, sN, sO, ↓reduceIte, reduceCtorEq]
              refine hK38 _ ?_
              refine awp_ret ?_
              try simp (disch := omega) only [htk0, bA, lA, bB, lB, hr, hf, hm, hlen, hp, hpx, hwr2, hwr3, hmod, hk0, hfx, hlf, hbv, hbx, nat_lt_zero, Int.lt_irrefl, fLen_ds, encE_all, encE_getD, List.length_range, ne_eq, amL, amT, sA, sB, sC, sD, sE, sF, sG, sH, sI, sJ, sK, sL, sM, sN, sO, ↓reduceIte, reduceCtorEq]
              all_goals first | rfl | (omega)
            ·first
             | exact Bool.noConfusion h
             |skip
              try simp only [] at h
              refine awp_skip ?_
              refine hK36 _ ?_
              refine awp_seq_k fun K39 hK39 => ?_
              refine awp_seq_k fun K40 hK40 => ?_
              refine awp_ops ?_
              simp (disch := omega) only [amL, sA]
              refine hK40 _ ?_
              refine awp_block ?_
              skip
              refine awp_loop_k (α := Nat) (fun k => ⟨T [(13, .p bv), (15, .p bx), (17, i64 (k : Int))], O []⟩) (fun k => nB - k) (fun k => k ≤ nB) 0 ?_ ?_ (fun k hx41 K41 hK41 => ?_)
              · simp
              · refine le_mk ?_ ?_ ?_ ?_ <;> (try simp (disch := omega) only [hbv, hbx, amL, sF, ↓reduceIte]); all_goals first | rfl | (omega)
              have hk := hx41
              refine awp_seq_k fun K42 hK42 => ?_
              refine awp_seq_k fun K43 hK43 => ?_
              refine awp_ops ?_
              simp (disch := omega) only [hm, hbv, hbx, nat_lt_zero, List.length_range, amL, amT, sA, sF, ↓reduceIte]
              refine hK43 _ ?_
              refine awp_cond rfl (fun h => ?_) (fun h => ?_)
              ·first
               | exact Bool.noConfusion h
               |skip
                try simp only [decide_eq_true_eq] at h
                refine awp_skip ?_
                refine hK42 _ ?_
                refine awp_seq_k fun K44 hK44 => ?_
                refine awp_block ?_
                refine awp_seq_k fun K45 hK45 => ?_
                refine awp_any2 (by kernel_rfl) (by kernel_rfl) ?_
                first
                | (have q0 := wid_bnd hf hw hfx hp (k := k)
                   have q1 := q0 (by omega)
                   have hb1 : ((bndR a k (truthsR a)).1 < (bndR (wiA a j (b : Int)) k (truthsR (wiA a j (b : Int)))).1) = False := eq_false (by have q : (bndR (wiA a j (b : Int)) k (truthsR (wiA a j (b : Int)))).1 ≤ (bndR a k (truthsR a)).1 := q1.1; omega)
                   have hb2 : ((bndR (wiA a j (b : Int)) k (truthsR (wiA a j (b : Int)))).2 < (bndR a k (truthsR a)).2) = False := eq_false (by have q : (bndR a k (truthsR a)).2 ≤ (bndR (wiA a j (b : Int)) k (truthsR (wiA a j (b : Int)))).2 := q1.2; omega)
                   have hge : (bndE (wiA a j (b : Int))).getD k [] = [iv (bndR (wiA a j (b : Int)) k (truthsR (wiA a j (b : Int)))).1, iv (bndR (wiA a j (b : Int)) k (truthsR (wiA a j (b : Int)))).2] := bndE_getD (by show k < (a.last + 1).toNat; omega))
                | (have hb1 := hwr3; have hb2 := hwr3; have hge := hwr3)
                simp (disch := omega) only [List.length_map, List.length_range, bndE_getD, hm, Int.lt_irrefl, List.length_range, amL, amT, sA, sB, sF, ↓reduceIte, reduceCtorEq]
                repeat' first | (refine EG_dec (fun h => ?_) (fun h => ?_) <;> simp (disch := omega) only [h, List.length_map, List.length_range, bndE_getD, hge, hb1, hb2, htk0, bA, lA, bB, lB, hr, hf, hm, hlen, hp, hpx, hwr2, hwr3, hmod, hk0, hfx, hlf, hbv, hbx, nat_lt_zero, Int.lt_irrefl, fLen_ds, encE_all, encE_getD, List.length_range, ne_eq, amL, amT, sA, sB, sC, sD, sE, sF, sG, sH, sI, sJ, sK, sL, sM, sN, sO, ↓reduceIte, reduceCtorEq]) | (refine EG_cases (fun h => ?_) (fun h => ?_) <;> simp (disch := omega) only [h, List.length_map, List.length_range, bndE_getD, hge, hb1, hb2, htk0, bA, lA, bB, lB, hr, hf, hm, hlen, hp, hpx, hwr2, hwr3, hmod, hk0, hfx, hlf, hbv, hbx, nat_lt_zero, Int.lt_irrefl, fLen_ds, encE_all, encE_getD, List.length_range, ne_eq, amL, amT, sA, sB, sC, sD, sE, sF, sG, sH, sI, sJ, sK, sL, sM, sN, sO, ↓reduceIte, reduceCtorEq])
                all_goals
                 skip
                 refine hK45 _ ?_
                 refine awp_cond rfl (fun h => ?_) (fun h => ?_)
                 ·first
                  | exact Bool.noConfusion h
                  |skip
                   try simp only [Bool.not_eq_true', decide_eq_true_eq, decide_eq_false_iff_not, Bool.and_eq_true, Bool.not_eq_false', Bool.not_not, decide_not, Bool.not_true, Bool.not_false] at h
                   refine awp_seq_k fun K46 hK46 => ?_
                   refine awp_ops ?_
                   simp (disch := omega) only [htk0, bA, lA, bB, lB, hr, hf, hm, hlen, hp, hpx, hwr2, hwr3, hmod, hk0, hfx, hlf, hbv, hbx, nat_lt_zero, Int.lt_irrefl, fLen_ds, encE_all, encE_getD, List.length_range, ne_eq, amL, amT, sA, sB, sC, sD, sE, sF, sG, sH, sI, sJ, sK, sL, sM, sN, sO, ↓reduceIte, reduceCtorEq]
                   refine hK46 _ ?_
                   refine awp_ret ?_
                   try simp (disch := omega) only [htk0, bA, lA, bB, lB, hr, hf, hm, hlen, hp, hpx, hwr2, hwr3, hmod, hk0, hfx, hlf, hbv, hbx, nat_lt_zero, Int.lt_irrefl, fLen_ds, encE_all, encE_getD, List.length_range, ne_eq, amL, amT, sA, sB, sC, sD, sE, sF, sG, sH, sI, sJ, sK, sL, sM, sN, sO, ↓reduceIte, reduceCtorEq]
                   all_goals first | rfl | (omega)
                 ·first
                  | exact Bool.noConfusion h
                  |skip
                   try simp only [] at h
                   refine awp_skip ?_
                   refine hK44 _ ?_
                   refine awp_ops ?_
                   simp (disch := omega) only [amL, amT, sA, sF, ↓reduceIte]
                   refine hK41 (k+1) _ ?_ ?_ (le_mk ?_ ?_ ?_ ?_)
                   all_goals (try simp (disch := omega) only [hbv, hbx, amL, sF, ↓reduceIte])
                   all_goals first | omega | (omega)
              ·first
               | exact Bool.noConfusion h
               |skip
                try simp only [decide_eq_false_iff_not] at h
                refine awp_exit ?_
                refine hK39 _ ?_
                refine awp_seq_k fun K47 hK47 => ?_
                refine awp_ops ?_
                simp (disch := omega) only [amL]
                repeat' first | (refine EC_intro (by kernel_rfl) rfl (c20) (by first | exact .inl rfl | exact .inr (.inl rfl)) ?_ ; simp (disch := omega) only [amL, sA, ↓reduceIte])
                refine hK47 _ ?_
                refine awp_ret ?_
                try simp (disch := omega) only [amL, ↓reduceIte]
                all_goals first | rfl | (omega)
end AM.Try
end
