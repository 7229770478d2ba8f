/- Lemmas for the proof: an abstract machine over the program's form in Lean, and the program's functions walked on it. -/
import Derived.Test.YtkmgffkfbocebaaP1
import Derived.DeepKeys3
import Derived.Laws.Cover3
/- The abstract machine, part 32: the statement that ranges over a function; code behind it; contracts of functions that hold one. -/
section
namespace AM
open Go
def mark (D : Nat) : Deferred := { target := .collected D, args := #[] }
def Find (r : RB) (N B : Nat) (S : Nat → Prop) (θ : Nat → Loc) (M : Nat → Prop) (w : World) (a : Act) (st' : St) (a' : Act) (w' : World) : Prop :=
  ∃ θ' M', SRel N B S θ' M' w' st' a' ∧ Keeps (fun b => B ≤ b ∨ S b) w w' ∧ (∀ n, n < r.b → ¬ r.mv n → θ' n = θ n) ∧ (∀ b, b < B → M b → M' b) ∧
    ∃ L : List Nat, a'.defers = L.map mark ++ a.defers ∧ L.Nodup ∧ ∀ D ∈ L, w'.heap[D]? = some (.deferred (some [])) ∧ M' D ∧ B ≤ D ∧ ∀ n o, st'.o n = some o → (θ' n).nil = false → (θ' n).blk ≠ D
def AWPd (P : Program) (r : RB) (N : Nat) (c : Code) (st : St) (Q : AEx → St → Prop) : Prop :=
  ∀ B S θ M w a, SRel N B S θ M w st a → c.wpIn (Wd r.rd) 0 P (fun e a' w' => ∃ ae st', e = ae.toExit ∧ Q ae st' ∧ Find r N B S θ M w a st' a' w') a w
section
variable {P : Program} {r : RB} {N B : Nat} {S : Nat → Prop} {θ : Nat → Loc} {M : Nat → Prop} {w : World} {st : St} {a : Act} {Q : AEx → St → Prop}
theorem awpd_of_awp {c : Code} (h : AWP P r N c st Q) : AWPd P r N c st Q := fun B S θ M w a hs =>
  wpIn_mono (h B S θ M w a hs) fun _ _ _ ⟨ae, st', h1, h2, ⟨θ', M', h3, h4, h5, h6⟩, h7⟩ => ⟨ae, st', h1, h2, θ', M', h3, h4, h5, h6, [], by simpa using h7, .nil, fun D hD => by cases hD⟩
theorem AWPd.weaken {c : Code} {s1 : St} (hle : s1.le st) (h : AWPd P r N c s1 Q) : AWPd P r N c st Q := fun B S θ M w a hs => h B S θ M w a (hs.weaken hle)
theorem AWPd.at {c : Code} (h : AWPd P r N c st Q) {w' : World} {a' : Act} (hf : Find r N B S θ M w a st a' w') :
    c.wpIn (Wd r.rd) 0 P (fun e a'' w'' => ∃ ae st', e = ae.toExit ∧ Q ae st' ∧ Find r N B S θ M w a st' a'' w'') a' w' := by
  obtain ⟨θ1, M1, hs, hk, ht, hm, L, hL, hnd, hD⟩ := hf
  have hs1 : SRel N w'.heap.size (fun b => (B ≤ b ∨ S b) ∧ b ∉ L) θ1 M1 w' st a' :=
    ⟨hs.size, hs.tm, hs.ob, fun n o hn hnil => ⟨(hs.lv n o hn hnil).1, .inr ⟨(hs.lv n o hn hnil).2, fun hmem => (hD _ hmem).2.2.2 n o hn hnil rfl⟩⟩, hs.inj, Nat.le_refl _, hs.mlt, hs.cl⟩
  refine wpIn_mono (h _ _ θ1 M1 w' a' hs1) ?_
  rintro e a2 w2 ⟨ae, st2, rfl, hq, θ2, M2, hs2, hk2, ht2, hm2, L2, hL2, hnd2, hD2⟩
  have hlt : ∀ D ∈ L, D < w'.heap.size := fun D hd => (Array.getElem?_eq_some_iff.1 (hD D hd).1).1
  refine ⟨ae, st2, rfl, hq, θ2, M2, ⟨hs2.size, hs2.tm, hs2.ob, fun n o hn hnil => ?_, hs2.inj, Nat.le_trans hs.base hs2.base, hs2.mlt, hs2.cl⟩, ?_, fun n hn hv => (ht2 n hn hv).trans (ht n hn hv), fun b hb hM => hm2 b (Nat.lt_of_lt_of_le hb hs.base) (hm b hb hM), L2 ++ L, by rw [hL2, hL]; simp, ?_, ?_⟩
  · obtain ⟨h1, h2⟩ := hs2.lv n o hn hnil
    exact ⟨h1, h2.elim (fun h => .inl (Nat.le_trans hs.base h)) (fun h => h.1)⟩
  · exact hk.trans (hk2.mono (M' := fun b => B ≤ b ∨ S b) (fun b hb => hb.elim (fun h => .inl (Nat.le_trans hs.base h)) (fun h => h.1))) (fun _ _ h => h)
  · rw [List.nodup_append]
    exact ⟨hnd2, hnd, fun x hx y hy e => by
      subst e
      have h1 := (hD2 x hx).2.2.1
      have h2 := hlt x hy
      omega⟩
  · intro D hd
    rcases List.mem_append.1 hd with hd | hd
    · obtain ⟨h1, h2, h3, h4⟩ := hD2 D hd
      exact ⟨h1, h2, Nat.le_trans hs.base h3, h4⟩
    · obtain ⟨h1, h2, h3, h4⟩ := hD D hd
      have hl := hlt D hd
      refine ⟨(hk2.same D hl (fun e => e.elim (fun e => by omega) (fun e => e.2 hd))).trans h1, hm2 D hl h2, h3, fun n o hn hnil eb => ?_⟩
      obtain ⟨_, h6⟩ := hs2.lv n o hn hnil
      rcases h6 with h6 | h6
      · rw [eb] at h6; omega
      · rw [eb] at h6; exact h6.2 hd
theorem awpd_seq {x y : Code} (h : AWPd P r N x st (thenQ (fun s => AWPd P r N y s Q) Q)) : AWPd P r N (.seq x y) st Q := by
  intro B S θ M w a hs
  refine wpIn_seq (wpIn_mono (h B S θ M w a hs) fun e a' w' ⟨ae, st', h1, h2, h3⟩ => ?_)
  subst h1
  cases ae with
  | normal => exact AWPd.at h2 h3
  | exit id => exact ⟨.exit id, st', rfl, h2, h3⟩
  | ret => exact ⟨.ret, st', rfl, h2, h3⟩
theorem awpd_seq_k {x y : Code} (h : ∀ K : St → Prop, (∀ s, AWPd P r N y s Q → K s) → AWPd P r N x st (thenQ K Q)) : AWPd P r N (.seq x y) st Q := awpd_seq (h _ fun _ h => h)
theorem awpd_seq_p {x y : Code} (h : ∀ K : St → Prop, (∀ s, AWPd P r N y s Q → K s) → AWP P r N x st (thenQ K Q)) : AWPd P r N (.seq x y) st Q := awpd_seq (awpd_of_awp (h _ fun _ h => h))
theorem awpd_block {id : Nat} {c : Code} (h : AWPd P r N c st (blockQ id Q)) : AWPd P r N (.block id c) st Q := by
  intro B S θ M w a hs
  refine wpIn_block (wpIn_mono (h B S θ M w a hs) fun e a' w' ⟨ae, st', h1, h2, h3⟩ => ?_)
  subst h1
  cases ae with
  | normal => exact ⟨.normal, st', rfl, h2, h3⟩
  | ret => exact ⟨.ret, st', rfl, h2, h3⟩
  | exit i =>
    simp only [blockQ] at h2
    simp only [AEx.toExit, Exit.inBlock]
    split at h2
    · rename_i hi; rw [if_pos hi]; exact ⟨.normal, st', rfl, h2, h3⟩
    · rename_i hi; rw [if_neg hi]; exact ⟨.exit i, st', rfl, h2, h3⟩
theorem SRel.defers (h : SRel N B S θ M w st a) (d : List Deferred) : SRel N B S θ M w st { a with defers := d } := ⟨h.size, h.tm, h.ob, h.lv, h.inj, h.base, h.mlt, h.cl⟩
theorem SRel.allocM (h : SRel N B S θ M w st a) (x : Obj) : SRel N B S θ (fun b => M b ∨ b = w.heap.size) (w.alloc x) st a := by
  have hs : ∀ b, b < w.heap.size → (w.alloc x).heap[b]? = w.heap[b]? := fun b hb => by
    show (w.heap.push x)[b]? = _
    rw [Array.getElem?_push, if_neg (by omega)]
  have hM : ∀ b, b < w.heap.size → (M b ∨ b = w.heap.size) → M b := fun b hb hm => hm.elim id (fun e => by omega)
  have hsz : (w.alloc x).heap.size = w.heap.size + 1 := by simp
  refine ⟨h.size, fun i => (h.tm i).mono (fun b hb _ => hs b hb) hM, fun n o hn => (h.ob n o hn).mono (fun hnil => hs _ (h.mlt _ (h.lv n o hn hnil).1)) (fun y v hr _ => hr.mono (fun b hb _ => hs b hb) hM) (fun y v hp => hp.mono (fun b hb _ => hs b hb) hM),
    fun n o hn hnil => ⟨.inl (h.lv n o hn hnil).1, (h.lv n o hn hnil).2⟩, h.inj, by rw [hsz]; exact Nat.le_succ_of_le h.base, fun b hb => ?_, h.cl⟩
  rw [hsz]
  rcases hb with hb | rfl
  · have := h.mlt b hb; omega
  · omega
theorem awpd_rangeFuncM {bd : Nat} {mv : Nat → Prop} (hmv : ∀ n, mv n → r.mv n ∨ r.b ≤ n) (hmb : ¬ mv bd) {g : Operand} {ps : Array Tmp} {assign body : Code} {f : Nat} {fs cs : List AV} {tm : List (Nat × AV)} {R : AV → (Nat → Option AO) → Prop} (hro : r.rd = none) (hbd : ∀ n, bd ≤ n → st.o n = none) (hb : r.b ≤ bd) (hg : ev st.t g = .fn (.func f) fs cs) (hcal : callable P f = true)
    (htm : ∀ i, T tm i = .undef ∨ T tm i = st.t i) (htm' : ∀ (j : Nat) (p : Nat × AV), tm[j]? = some p → p.2 = .undef ∨ p.2 = st.t p.1) (hts : ∀ i, (T tm i).stays mv)
    (hcall : VCallM P mv (bd + 1) (ev st.t g) [.yld bd] (upd st.o bd (some (.loop ⟨N, ps.toList, assign, body, .ready, none⟩ tm))) R)
    (hR : ∀ res os', R res os' → (Hp os').closed → ∃ k', os' bd = some (.loop k' tm) ∧ k'.state ≠ .busy ∧
      (match k'.pending with
       | none => Q .normal ⟨T tm, upd os' bd (some (.loop { k' with state := .exhausted } tm))⟩
       | some .ret => Q .ret ⟨T tm, upd os' bd (some (.loop { k' with state := .exhausted } tm))⟩
       | some (.exit i) => Q (.exit i) ⟨T tm, upd os' bd (some (.loop { k' with state := .exhausted } tm))⟩
       | _ => False)) : AWPd P r N (.rangeFunc g ps assign body) st Q := by
  intro B S θ M w a hs
  rw [hro]
  refine wpIn_rangeFunc (F := Wd none) ?_
  intro fn _
  have hD := hs.allocM (.deferred (some []))
  have hsz : (w.alloc (.deferred (some []))).heap.size = w.heap.size + 1 := by simp
  generalize hwD : w.alloc (.deferred (some [])) = wD at *
  have hDat : wD.heap[w.heap.size]? = some (.deferred (some [])) := by rw [← hwD]; exact World.alloc_heap_new w _
  have hkD : Keeps (fun b => B ≤ b ∨ S b) w wD := by rw [← hwD]; exact Keeps.alloc _ _ _
  obtain ⟨rec, hrec⟩ : ∃ rec : Loop, rec = { state := .ready, pending := none, fn, tmps := a.tmps, params := ps, assign, body, defers := w.heap.size } := ⟨_, rfl⟩
  have hsz1 : (wD.alloc (.loop rec)).heap.size = w.heap.size + 2 := by simp [hsz]
  have hL : (wD.alloc (.loop rec)).heap[w.heap.size + 1]? = some (.loop rec) := by have := World.alloc_heap_new wD (.loop rec); rwa [hsz] at this
  have hk1 : ∀ b, b < wD.heap.size → (wD.alloc (.loop rec)).heap[b]? = wD.heap[b]? := fun b hb => by
    show (wD.heap.push _)[b]? = _
    rw [Array.getElem?_push, if_neg (by omega)]
  have hkL : Keeps (fun b => B ≤ b ∨ S b) wD (wD.alloc (.loop rec)) := Keeps.alloc _ _ _
  have hfree : st.o bd = none := hbd bd (Nat.le_refl _)
  have hclt : ∀ (j : Nat) (p : Nat × AV), tm[j]? = some p → p.2.lives st.o := fun j p hp => by
    rcases htm' j p hp with e | e
    · rw [e]; exact AV.lives_undef _
    · rw [e]; exact hs.cl.1 _
  have hMm : ∀ b, b < wD.heap.size → ((M b ∨ b = w.heap.size) ∨ (false = false ∧ b = w.heap.size + 1)) → (M b ∨ b = w.heap.size) := fun b hb hm => hm.elim id (fun e => by omega)
  have hnew := hD.new (d := bd) hfree (w' := wD.alloc (.loop rec)) (l := ⟨w.heap.size + 1, 0, false⟩) (o := .loop ⟨N, ps.toList, assign, body, .ready, none⟩ tm) (by simp) hk1 (fun _ => ⟨by show _ ≤ w.heap.size + 1; omega, by show w.heap.size + 1 < _; omega⟩)
    (by
      refine ⟨rfl, fn, a.tmps, w.heap.size, ?_, hs.size, fun j p hp => ?_⟩
      · show (wD.alloc (.loop rec)).heap[w.heap.size + 1]? = _
        rw [hL, hrec]
      · have hb := hclt j p hp
        rcases htm' j p hp with e | e
        · rw [e]; exact .undef _
        · have h1 := hD.tm p.1
          rw [← e] at h1
          exact (h1.mono (fun b hb _ => hk1 b hb) hMm).rename (clean_of_free hfree hb))
    (by rw [AO.lives_loop]; exact fun j p hp => AV.lives_mono (fun n hn => by
      by_cases e : n = bd
      · subst e; simp
      · rw [upd_other e]; exact hn) (hclt j p hp))
  generalize hw1 : wD.alloc (.loop rec) = w1 at *
  have hnew : SRel N B S (updL θ bd ⟨w.heap.size + 1, 0, false⟩) (fun b => (M b ∨ b = w.heap.size) ∨ (false = false ∧ b = w.heap.size + 1)) w1 ⟨st.t, upd st.o bd (some (.loop ⟨N, ps.toList, assign, body, .ready, none⟩ tm))⟩ a := hnew
  have hblk : ∀ b, blks ⟨st.t, upd st.o bd (some (.loop ⟨N, ps.toList, assign, body, .ready, none⟩ tm))⟩ (updL θ bd ⟨w.heap.size + 1, 0, false⟩) b → b ≠ w.heap.size ∧ ((M b ∨ b = w.heap.size) ∨ (false = false ∧ b = w.heap.size + 1)) ∧ (B ≤ b ∨ S b) := by
    rintro b ⟨n, o, hn, hnil, rfl⟩
    refine ⟨?_, hnew.lv n o hn hnil⟩
    by_cases e : n = bd
    · subst e; simp
    · have hn' : st.o n = some o := by have hn : upd st.o bd _ n = some o := hn; rwa [upd_other e] at hn
      rw [updL_other e] at hnil ⊢
      have := hs.mlt _ (hs.lv n o hn' hnil).1
      omega
  have hbd1 : ∀ n, bd + 1 ≤ n → upd st.o bd (some (.loop ⟨N, ps.toList, assign, body, .ready, none⟩ tm)) n = none := fun n hn => by rw [upd_other (by omega)]; exact hbd n (by omega)
  have hgv := ev_rel hnew g
  have hgv' : ARel (updL θ bd ⟨w.heap.size + 1, 0, false⟩) (fun b => (M b ∨ b = w.heap.size) ∨ (false = false ∧ b = w.heap.size + 1)) w1 (ev st.t g) (a.eval g) := hgv
  have hyl : ARel (updL θ bd ⟨w.heap.size + 1, 0, false⟩) (fun b => (M b ∨ b = w.heap.size) ∨ (false = false ∧ b = w.heap.size + 1)) w1 (.yld bd) (.func (.yield (w.heap.size + 1)) #[] #[]) := by
    have := ARel.yld (θ := updL θ bd ⟨w.heap.size + 1, 0, false⟩) (M := fun b => (M b ∨ b = w.heap.size) ∨ (false = false ∧ b = w.heap.size + 1)) (w := w1) bd
    simpa using this
  obtain ⟨nx, hrun, hruns⟩ := hcall hbd1 _ _ _ w1 (a.eval g) #[.func (.yield (w.heap.size + 1)) #[] #[]] hnew.toHp hgv' rfl (fun i x hx => by
      cases i with
      | zero => cases hx; exact hyl
      | succ i => simp at hx) (ev_lives hnew g) (fun i x hx => by
      cases i with
      | zero =>
        cases hx
        intro n hn
        simp only [AV.clean, bne_eq_false_iff_eq] at hn
        subst hn; simp
      | succ i => simp at hx)
  generalize hgg : a.eval g = gv at *
  rw [hg] at hgv'
  cases hgv' with
  | fn _ _ _ vfs vcs g1 g2 g3 g4 =>
    rw [run_invoke_func hcal] at hrun
    cases hrun
    have hinv := run_invoke_func (w := w1) (vfs := vfs) (vcs := vcs) (vs := #[.func (.yield (w.heap.size + 1)) #[] #[]]) hcal
    refine ⟨w.heap.size + 1, [mark w.heap.size], w1, { target := .fn (.func f) vcs, args := vfs ++ #[.func (.yield (w.heap.size + 1)) #[] #[]] }, w1, f, vfs ++ #[.func (.yield (w.heap.size + 1)) #[] #[]] ++ vcs, w1, ?_, ?_, fun _ _ => trivial, ?_, fun h => by simp [Wd] at h, ?_⟩
    · have := run_enterLoop_outer (P := P) (w := w) fn a.tmps ps assign body
      rw [hwD, ← hrec, hw1] at this
      exact this
    · simp only [resolve, hgg]
      simp [Deferred.ofValue, Act.eval]
    · simpa [Deferred.ofValue] using hinv
    · refine callsIn_of_calls (Calls.mono hruns ?_)
      rintro e w3 ⟨v, rfl, res, os', θ', M', hRr, hS3, hres, hlv, hk3, hth, hM3⟩
      obtain ⟨k', hk', hbusy, hQ⟩ := hR res os' hRr hS3.cl
      have hlt' : ∀ i, (T tm i).lives os' := fun i => by
        rcases T_undef_or tm i with e | ⟨j, e⟩
        · rw [e]; exact AV.lives_undef _
        · exact AO.lives_loop.1 (hS3.cl.2 bd _ hk') j _ e
      have hback := hnew.back (fun b hb => (hblk b hb).2) hS3 hk3 (t' := T tm) (fun i => (htm i).imp id (fun e => ⟨e, fun n hn => hth n (by
        have h1 := hnew.cl.1 i n hn
        cases Nat.lt_or_ge n (bd + 1) with
        | inl h => exact h
        | inr h =>
          have h1 : (upd st.o bd (some (.loop ⟨N, ps.toList, assign, body, .ready, none⟩ tm)) n).isSome = true := h1
          rw [hbd1 n h] at h1; cases h1) (fun hm => by have := hts i n hm; rw [e] at this; have hn : (st.t i).clean n = false := hn; rw [this] at hn; cases hn)⟩)) hlt'
      have hback2 := hback.defers (mark w.heap.size :: a.defers)
      obtain ⟨_, rec3, hrec3, q1, q2, _⟩ := hback.loopAt (nl := bd) hk'
      obtain ⟨hput, hkput⟩ := hback2.loopPut (nl := bd) hk' hrec3 .exhausted rec3.pending
      have ebd : (θ' bd).blk = w.heap.size + 1 := by rw [hth bd (by omega) hmb]; simp
      rw [ebd] at hrec3 hput hkput
      refine ⟨rec3.pending, _, run_endLoop hrec3 (by rw [q1]; exact hbusy), ?_⟩
      have hput' : SRel N B S θ' (fun b => M' b ∧ (b < w1.heap.size → ((M b ∨ b = w.heap.size) ∨ (false = false ∧ b = w.heap.size + 1)))) (w3.putObj (w.heap.size + 1) (.loop { rec3 with state := .exhausted })) ⟨T tm, upd os' bd (some (.loop { k' with state := .exhausted } tm))⟩ { a with defers := mark w.heap.size :: a.defers } := by
        rw [show ({ k' with state := LoopState.exhausted, pending := rec3.pending } : LoopK) = { k' with state := .exhausted } by rw [q2]] at hput
        exact hput
      have hfind : Find r N B S θ M w a ⟨T tm, upd os' bd (some (.loop { k' with state := .exhausted } tm))⟩ { a with defers := mark w.heap.size :: a.defers } (w3.putObj (w.heap.size + 1) (.loop { rec3 with state := .exhausted })) := by
        refine ⟨θ', _, hput', ?_, fun n hn hv => (hth n (by omega) (fun hm => (hmv n hm).elim hv (fun h => by omega))).trans (updL_other (by omega)), fun b hb hm => ⟨hM3 b (by have := hs.base; omega) (.inl (.inl hm)), fun _ => .inl (.inl hm)⟩, [w.heap.size], rfl, by simp, fun D hd => ?_⟩
        · refine hkD.trans (hkL.trans (Keeps.trans (hk3.mono (M' := fun b => B ≤ b ∨ S b) (fun b hb => hb.elim (fun h => .inl (by have := hs.base; omega)) (fun h => (hblk b h).2.2))) hkput (fun _ _ h => h)) (fun _ _ h => h)) (fun _ _ h => h)
        · simp only [List.mem_singleton] at hd
          subst hd
          refine ⟨?_, ⟨hM3 _ (by omega) (.inl (.inr rfl)), fun _ => .inl (.inr rfl)⟩, hs.base, fun n o hn hnil eb => ?_⟩
          · rw [World.putObj_heap_other (by omega), hk3.same _ (by omega) (fun e => e.elim (fun e => by omega) (fun e => (hblk _ e).1 rfl)), hk1 _ (by omega)]
            exact hDat
          · have hn2 : ∃ o2, os' n = some o2 := by
              by_cases e : n = bd
              · subst e; exact ⟨_, hk'⟩
              · have hn : upd os' bd _ n = some o := hn
                rw [upd_other e] at hn; exact ⟨o, hn⟩
            obtain ⟨o2, hn2⟩ := hn2
            obtain ⟨_, h6⟩ := hS3.lv n o2 hn2 hnil
            rcases h6 with h6 | h6
            · rw [eb] at h6; omega
            · exact (hblk _ h6).1 eb
      rw [q2] at hfind ⊢
      cases hpd : k'.pending with
      | none => rw [hpd] at hQ hfind; exact ⟨.normal, _, rfl, hQ, hfind⟩
      | some c =>
        rw [hpd] at hQ hfind
        cases c with
        | ret => exact wpIn_ret ⟨.ret, _, rfl, hQ, hfind⟩
        | exit i => exact wpIn_exit ⟨.exit i, _, rfl, hQ, hfind⟩
        | _ => exact hQ.elim
theorem awpd_rangeFunc {g : Operand} {ps : Array Tmp} {assign body : Code} {bd f : Nat} {fs cs : List AV} {tm : List (Nat × AV)} {R : AV → (Nat → Option AO) → Prop} (hro : r.rd = none) (hbd : ∀ n, bd ≤ n → st.o n = none) (hb : r.b ≤ bd) (hg : ev st.t g = .fn (.func f) fs cs) (hcal : callable P f = true)
    (htm : ∀ i, T tm i = .undef ∨ T tm i = st.t i) (htm' : ∀ (j : Nat) (p : Nat × AV), tm[j]? = some p → p.2 = .undef ∨ p.2 = st.t p.1)
    (hcall : VCall P (bd + 1) (ev st.t g) [.yld bd] (upd st.o bd (some (.loop ⟨N, ps.toList, assign, body, .ready, none⟩ tm))) R)
    (hR : ∀ res os', R res os' → (Hp os').closed → ∃ k', os' bd = some (.loop k' tm) ∧ k'.state ≠ .busy ∧
      (match k'.pending with
       | none => Q .normal ⟨T tm, upd os' bd (some (.loop { k' with state := .exhausted } tm))⟩
       | some .ret => Q .ret ⟨T tm, upd os' bd (some (.loop { k' with state := .exhausted } tm))⟩
       | some (.exit i) => Q (.exit i) ⟨T tm, upd os' bd (some (.loop { k' with state := .exhausted } tm))⟩
       | _ => False)) : AWPd P r N (.rangeFunc g ps assign body) st Q :=
  awpd_rangeFuncM (mv := fun _ => False) (fun _ h => h.elim) (fun h => h) hro hbd hb hg hcal htm htm' (fun _ _ h => h.elim) hcall hR
end
end AM
end
/- The abstract machine, part 33: contracts of functions that hold a range over a function; results that nothing old is seen in. -/
section
namespace AM
open Go
section
variable {P : Program} {r : RB} {N B : Nat} {S : Nat → Prop} {θ : Nat → Loc} {M : Nat → Prop} {w : World} {st : St} {a : Act} {Q : AEx → St → Prop}
theorem SRel.putD (h : SRel N B S θ M w st a) {D : Nat} (hM : M D) (hap : ∀ n o, st.o n = some o → (θ n).nil = false → (θ n).blk ≠ D) (x : Obj) : SRel N B S θ M (w.putObj D x) st a := by
  have hk : ∀ b, b ≠ D → (w.putObj D x).heap[b]? = w.heap[b]? := fun b hb => World.putObj_heap_other hb
  have hw : ∀ b, b < w.heap.size → ¬ M b → (w.putObj D x).heap[b]? = w.heap[b]? := fun b _ hm => hk b (fun e => hm (e ▸ hM))
  exact ⟨h.size, fun i => (h.tm i).mono hw (fun _ _ h => h), fun n o hn => (h.ob n o hn).mono (fun hnil => hk _ (hap n o hn hnil)) (fun y v hr _ => hr.mono hw (fun _ _ h => h)) (fun y v hp => hp.mono hw (fun _ _ h => h)),
    h.lv, h.inj, by simpa using h.base, by simpa using h.mlt, h.cl⟩
theorem leaves_marks {fn : Func} {tmps : Array Value} {R : Ending → World → Prop} {v : Value} : ∀ (L : List Nat) (w : World), L.Nodup → (∀ D ∈ L, w.heap[D]? = some (.deferred (some []))) →
    (results fn tmps).run P (L.foldl (fun w D => w.putObj D (.deferred none)) w) = .ok v (L.foldl (fun w D => w.putObj D (.deferred none)) w) → R (.returned v) (L.foldl (fun w D => w.putObj D (.deferred none)) w) →
    LeavesInM (Wd none) 0 P fn tmps R (L.map mark) .returning w
  | [], w, _, _, h1, h2 => ⟨v, h1, h2⟩
  | D :: L, w, hnd, hD, h1, h2 => by
    refine ⟨by simp, .inl ⟨D, _, rfl, run_takeDeferred (hD D (by simp)), ?_⟩⟩
    rw [List.nodup_cons] at hnd
    refine leaves_marks L _ hnd.2 (fun D' hD' => ?_) h1 h2
    have hne : D' ≠ D := fun e => hnd.1 (by rw [← e]; exact hD')
    rw [World.putObj_heap_other hne]
    exact hD D' (by simp [hD'])
theorem SRel.putDs : ∀ (L : List Nat) {w : World}, SRel N B S θ M w st a → (∀ D ∈ L, M D ∧ B ≤ D ∧ ∀ n o, st.o n = some o → (θ n).nil = false → (θ n).blk ≠ D) →
    SRel N B S θ M (L.foldl (fun w D => w.putObj D (.deferred none)) w) st a ∧ Keeps (fun b => B ≤ b ∨ S b) w (L.foldl (fun w D => w.putObj D (.deferred none)) w)
  | [], w, h, _ => ⟨h, Keeps.refl _ _⟩
  | D :: L, w, h, hD => by
    obtain ⟨h1, h2, h3⟩ := hD D (by simp)
    obtain ⟨g1, g2⟩ := SRel.putDs L (h.putD h1 h3 (.deferred none)) (fun D' hD' => hD D' (by simp [hD']))
    refine ⟨g1, Keeps.trans ⟨by simp, fun b _ hb => World.putObj_heap_other (fun e => hb (.inl (e ▸ h2))), rfl, rfl, rfl⟩ g2 (fun _ _ h => h)⟩
theorem wd_calls {f : FuncId} {args : Array Value} {R : Ending → World → Prop} (h : CallsIn (Wd none) 0 P f args w R) : Calls P f args w R := (callsIn_wide (n := 0)).1 h
theorem vcall_of_awpd {mv : Nat → Prop} {f : FuncId} {fn : Func} {body : Code} {bd : Nat} {v q : List Nat} {fs args cs : List AV} {os : Nat → Option AO} {R : AV → (Nat → Option AO) → Prop} (hf : P.funcs[f]? = some fn) (hb : fn.body = some body) (hcal : callable P f = true)
    (h : (Hp os).closed → (∀ n, bd ≤ n → os n = none) → AWPd P ⟨⟨none, mv⟩, bd, v, q⟩ fn.ntmps body ⟨fun i => (fs ++ args ++ cs).getD i .undef, os⟩ (RetS P fn.results.toList R)) : VCallM P mv bd (.fn (.func f) fs cs) args os R := by
  intro hfree S θ M w vf vs hH hfv hsz hargs hlf hla
  cases hfv with
  | fn _ _ _ vfs vcs h1 h2 g1 g2 =>
    refine ⟨_, run_invoke_func hcal, ?_⟩
    obtain ⟨e1, e2⟩ := getD_app3 h1 hsz h2 g1 hargs g2
    obtain ⟨l1, l2⟩ := lives_fn_parts hlf
    have h0 := hH.start (fn := fn) e1 e2 (lives_app3 l1 hla l2)
    refine wd_calls (callsIn_of_wp_marks hf hb trivial ?_ rfl)
    refine wpIn_mono (h hH.cl hfree _ S θ M w _ h0) ?_
    rintro e a' w' ⟨ae, st', rfl, hr, θ', M', hs', hk, ht, hm, L, hL, hnd, hD⟩
    obtain ⟨hs2, hk2⟩ := hs'.putDs L (fun D hd => ⟨(hD D hd).2.1, (hD D hd).2.2.1, (hD D hd).2.2.2⟩)
    have key : RetV P fn.results.toList R st' → LeavesInM (Wd none) 0 P fn a'.tmps (fun e w' => ∃ v, e = .returned v ∧ VPost mv S bd θ M w R v w') a'.defers .returning w' := by
      rintro ⟨res, os', hrr, hsub, hcl, hlv, hR⟩
      obtain ⟨v, hv, hvr⟩ := resOf_run hs2 hrr
      rw [hL]
      simp only [List.append_nil]
      exact leaves_marks L w' hnd (fun D hd => (hD D hd).1) hv ⟨v, rfl, res, os', θ', M', hR, hs2.hp hsub hcl, hvr, hlv, hk.trans hk2 (fun _ _ h => h), ht, hm⟩
    cases ae with
    | normal => exact key hr
    | ret => exact key hr
    | exit i => exact hr.elim
theorem others_blk {st : St} (hs : SRel N B S θ M w st a) {M0 : Nat → Prop} (h0 : ∀ b, M0 b → b < B) (hS : ∀ b, ¬ S b) : Others st θ M0 := fun n o hn hnil hb => by
  have h1 := (hs.lv n o hn hnil).2
  have h2 := h0 _ hb
  rcases h1 with h1 | h1
  · omega
  · exact hS _ h1
theorem pcall_of_awpd {f : FuncId} {fn : Func} {body : Code} {v q : List Nat} {args : List AV} {res : AV} (hf : P.funcs[f]? = some fn) (hb : fn.body = some body) (hargs : args.all AV.isP = true)
    (h : AWPd P ⟨⟨none, fun _ => False⟩, 0, v, q⟩ fn.ntmps body (St.init args) (fun e s => (e = .normal ∨ e = .ret) ∧ (resVars P s fn.results.toList).map resOf = some res)) (hres : res.isP = true) : PCall P f args res := by
  refine ⟨hres, fun θ M w vs hM hsz hrel => ?_⟩
  refine wd_calls (callsIn_of_wp_marks hf hb trivial ?_ rfl)
  have hH : SRel 0 w.heap.size (fun _ => False) θ M w (Hp fun _ => none) a0 :=
    ⟨Nat.zero_le _, fun _ => .undef _, (fun n o hn => by cases hn), (fun n o hn => by cases hn), (fun n m hn => by cases hn), Nat.le_refl _, hM, ⟨fun _ => AV.lives_undef _, (fun m o hm => by cases hm)⟩⟩
  have h0 := hH.start (fn := fn) hsz hrel (fun i x hx => lives_isP _ (List.all_eq_true.1 hargs x (List.mem_of_getElem? hx)))
  refine wpIn_mono (h _ _ θ M w _ h0) ?_
  rintro e a' w' ⟨ae, st', rfl, ⟨hae, hr⟩, θ', M', hs', hk, ht, hm, L, hL, hnd, hD⟩
  obtain ⟨ys, hys, rfl⟩ := Option.map_eq_some_iff.1 hr
  obtain ⟨hs2, hk2⟩ := hs'.putDs L (fun D hd => ⟨(hD D hd).2.1, (hD D hd).2.2.1, (hD D hd).2.2.2⟩)
  have hoth : Others st' θ' M := others_blk hs2 hM (fun _ h => h)
  obtain ⟨us, hus, hul, hur⟩ := resVars_run (P := P) hs2 (M2 := M) (fun b hb => hm b (hM b hb) hb) hoth hys
  have hrun : ∃ v, (results fn a'.tmps).run P (L.foldl (fun w D => w.putObj D (.deferred none)) w') = .ok v (L.foldl (fun w D => w.putObj D (.deferred none)) w') ∧ ARel θ' M (L.foldl (fun w D => w.putObj D (.deferred none)) w') (resOf ys) v := by
    have hus' : (fn.results.mapM (resSem a'.tmps)).run P (L.foldl (fun w D => w.putObj D (.deferred none)) w') = .ok us.toArray (L.foldl (fun w D => w.putObj D (.deferred none)) w') := by
      rw [Array.mapM_eq_mapM_toList, Sem.run_map, hus]; rfl
    rw [results_eq]
    simp only [Sem.run_bind, hus', Result.andThen_ok, Sem.run_pure]
    match ys, us, hul with
    | [y], [u], _ => exact ⟨u, rfl, by simpa [resOf] using (hur 0 y (by simp)).1⟩
    | [], [], _ => exact ⟨.tuple #[], rfl, .tup [] #[] rfl (fun i x h => by simp at h)⟩
    | y1 :: y2 :: ys', u1 :: u2 :: us', hul => exact ⟨.tuple (u1 :: u2 :: us').toArray, rfl, .tup _ _ (by simpa using hul) (fun i x hx => by simpa [Array.getD_eq_getD_getElem?] using (hur i x hx).1)⟩
  obtain ⟨v, hv, hvr⟩ := hrun
  have hpost : LeavesInM (Wd none) 0 P fn a'.tmps (fun e w' => ∃ v, e = .returned v ∧ ARel θ M w' (resOf ys) v ∧ Keeps (fun b => w.heap.size ≤ b) w w') a'.defers .returning w' := by
    rw [hL]
    simp only [List.append_nil]
    exact leaves_marks L w' hnd (fun D hd => (hD D hd).1) hv ⟨v, rfl, hvr.nameless θ hres, (hk.trans hk2 (fun _ _ h => h)).mono (fun b hb => hb.elim id False.elim)⟩
  rcases hae with rfl | rfl
  · exact hpost
  · exact hpost
end
end AM
end
/- The abstract machine, part 34: functions whose result is new. -/
section
namespace AM
open Go
def FCall (P : Program) (f : FuncId) (args : List AV) (res : AV) : Prop :=
  res.isP = true ∧ ∀ (θ : Nat → Loc) (M : Nat → Prop) (w : World) (vs : Array Value), (∀ b, M b → b < w.heap.size) → vs.size = args.length → (∀ (i : Nat) (x : AV), args[i]? = some x → ARel θ M w x (vs.getD i undef)) →
    Calls P f vs w fun e w' => ∃ v, e = .returned v ∧ ARel θ (fun b => b < w.heap.size) w' res v ∧ Keeps (fun b => w.heap.size ≤ b) w w'
theorem FCall.toP {P : Program} {f : FuncId} {args : List AV} {res : AV} (h : FCall P f args res) : PCall P f args res :=
  ⟨h.1, fun θ M w vs hM hsz hrel => Calls.mono (h.2 θ M w vs hM hsz hrel) fun _ _ ⟨v, h1, h2, h3⟩ => ⟨v, h1, h2.mono (fun _ _ _ => rfl) (fun b _ hb => hM b hb), h3⟩⟩
def PV.isVal : PV → Bool
  | .val _ => true
  | _ => false
def viewF (B : Nat) (os : Nat → Option AO) : AV → Option AV
  | .p (.val (.slice none 0 0)) => some (.p (.sl []))
  | .p (.val v) => some (.p (.val v))
  | .own n len => match os n with
    | some (.arr _ es) => if len ≤ es.length ∧ B ≤ n ∧ (es.all fun e => e.all PV.isVal) = true then some (.p (.sl (es.take len))) else none
    | _ => none
  | _ => none
section
variable {P : Program} {r : RB} {N B : Nat} {S : Nat → Prop} {θ : Nat → Loc} {M M2 : Nat → Prop} {w : World} {st : St} {a : Act} {Q : AEx → St → Prop}
theorem PRel.isVal {x : PV} {v : Value} (h : PRel M w x v) (hx : x.isVal = true) (M' : Nat → Prop) (w' : World) : PRel M' w' x v := by
  cases h with
  | val v h => exact .val v h
  | _ => simp [PV.isVal] at hx
theorem viewF_rel (h : SRel N B S θ M w st a) (ho : Others st θ M2) {x y : AV} {v : Value} (hv : ARel θ M w x v) (hy : viewF 0 st.o x = some y) : ARel θ M2 w y v ∧ y.isP = true := by
  unfold viewF at hy
  split at hy
  · cases hy
    cases hv with
    | p _ _ h => cases h with
      | val _ _ => exact ⟨.p _ _ .nil, rfl⟩
  · cases hy
    cases hv with
    | p _ _ h => exact ⟨.p _ _ (h.isVal rfl _ _), rfl⟩
  · rename_i n len
    split at hy
    · rename_i k es hn
      split at hy
      · rename_i hc
        cases hy
        obtain ⟨hlen, _, hall⟩ := hc
        obtain ⟨hk, hob⟩ := h.ob n _ hn
        refine ⟨.p _ _ ?_, rfl⟩
        cases hv with
        | ownNil _ h0 => simpa using PRel.nil
        | own _ _ h0 hcap =>
          rcases hob with ⟨h1, _⟩ | ⟨_, hle, cur, e, hb, hs1, ho1, hx1⟩
          · rw [h1] at h0; cases h0
          · have hl : (es.take len).length = len := by rw [List.length_take]; omega
            have := PRel.sl (M := M2) (w := w) (es.take len) (θ n).blk 0 (θ n).cap k (fun i j => cur.getD (i * k + j) undef) (fun i e hi => by
              rw [List.getElem?_take] at hi
              split at hi
              · exact hk i e hi
              · cases hi) (by rw [hl]; exact hcap) (fun i e' j x hi hj => by
              rw [List.getElem?_take] at hi
              split at hi
              · refine ⟨ho n _ hn h0, ?_⟩
                have hj' : j < k := by rw [← hk i e' hi]; exact (List.getElem?_eq_some_iff.1 hj).1
                have hi' := (List.getElem?_eq_some_iff.1 hi).1
                have hlt : i * k + j < cur.size := by
                  rw [hs1]
                  have : (i + 1) * k ≤ (θ n).cap * k := Nat.mul_le_mul_right _ (by omega)
                  rw [Nat.add_mul] at this; omega
                rw [Nat.zero_add]
                exact cell_of_block hb (by simp [hlt])
              · cases hi) (fun i e' j x hi hj => by
              rw [List.getElem?_take] at hi
              split at hi
              · have hv := hx1 i e' j x hi hj
                refine hv.isVal ?_ _ _
                have h1 := List.all_eq_true.1 hall e' (List.mem_of_getElem? hi)
                exact List.all_eq_true.1 h1 x (List.mem_of_getElem? hj)
              · cases hi)
            rw [hl] at this
            exact this
      · cases hy
    · cases hy
  · cases hy
theorem fcall_of_awp {f : FuncId} {fn : Func} {body : Code} {v q : List Nat} {args : List AV} {res : AV} {i : Nat} (hf : P.funcs[f]? = some fn) (hb : fn.body = some body) (hi : fn.results.toList = [.tmp i]) (hargs : args.all AV.isP = true)
    (h : AWP P ⟨⟨none, fun _ => False⟩, 0, v, q⟩ fn.ntmps body (St.init args) (fun e s => (e = .normal ∨ e = .ret) ∧ viewF 0 s.o (s.t i) = some res)) (hres : res.isP = true) : FCall P f args res := by
  refine ⟨hres, fun θ M w vs hM hsz hrel => ?_⟩
  refine calls_of_wp hf hb ((wpIn_wide (n := 0)).1 ?_)
  have hH : SRel 0 w.heap.size (fun _ => False) θ M w (Hp fun _ => none) a0 :=
    ⟨Nat.zero_le _, fun _ => .undef _, (fun n o hn => by cases hn), (fun n o hn => by cases hn), (fun n m hn => by cases hn), Nat.le_refl _, hM, ⟨fun _ => AV.lives_undef _, (fun m o hm => by cases hm)⟩⟩
  have h0 := hH.start (fn := fn) hsz hrel (fun i x hx => lives_isP _ (List.all_eq_true.1 hargs x (List.mem_of_getElem? hx)))
  refine wpIn_mono (h _ _ θ M w _ h0) ?_
  rintro e a' w' ⟨ae, st', rfl, ⟨hae, hr⟩, ⟨θ', M', hs', hk, ht, hm⟩, hd⟩
  have hoth : Others st' θ' (fun b => b < w.heap.size) := others_blk hs' (fun _ h => h) (fun _ h => h)
  obtain ⟨hvr, _⟩ := viewF_rel hs' hoth (hs'.tm i) hr
  have hrr : (results fn a'.tmps).run P w' = .ok (a'.tmps.getD i undef) w' := by
    have hus' : (fn.results.mapM (resSem a'.tmps)).run P w' = .ok #[a'.tmps.getD i undef] w' := by
      rw [Array.mapM_eq_mapM_toList, Sem.run_map, hi]
      simp [resSem]
    rw [results_eq]
    simp only [Sem.run_bind, hus', Result.andThen_ok, Sem.run_pure]
    rfl
  have hpost : ∃ v, (results fn a'.tmps).run P w' = .ok v w' ∧ ∃ v', Ending.returned v = .returned v' ∧ ARel θ (fun b => b < w.heap.size) w' res v' ∧ Keeps (fun b => w.heap.size ≤ b) w w' :=
    ⟨_, hrr, _, rfl, hvr.nameless θ hres, hk.mono (fun b hb => hb.elim id False.elim)⟩
  rcases hae with rfl | rfl
  · exact ⟨hd, hpost⟩
  · exact ⟨hd, hpost⟩
theorem astep_fcall {K : St → Prop} {o : Oper} {c : Call} {f : FuncId} (ho : o.op = .call c) (hd : ∀ k, o.dst = some k → k < N) (hc : c.callee = .value (.func f)) (hf : callable P f = true) {args : List AV} (hargs : viewAs st.o (c.args.toList.map (ev st.t)) = some args) {res : AV} (hcall : FCall P f args res)
    (h : K (st.put o.dst res)) : AStep P r N o st K := by
  intro B S θ M w a Q hsr
  refine ⟨fun _ _ => trivial, ?_⟩
  rw [Oper.semAt_eq _ _ _ (by rw [ho]; intro c h; cases h), run_call ho hc hf]
  refine ⟨fun h => by simp [Wd] at h, callsIn_of_calls ?_⟩
  obtain ⟨hl, hg⟩ := viewAs_get hargs
  have hval : ∀ (i : Nat) (z : Operand), c.args.toList[i]? = some z → (c.args.map a.eval).getD i undef = a.eval z := fun i z hz => by
    have : c.args[i]? = some z := by simpa using hz
    simp [Array.getD_eq_getD_getElem?, this]
  refine Calls.mono (hcall.2 θ (without st θ M) w (c.args.map a.eval) (fun b hb => hsr.mlt b hb.1) (by rw [hl]; simp) (fun i y hy => ?_)) ?_
  · obtain ⟨x, hx, hv⟩ := hg i y hy
    simp only [List.getElem?_map, Option.map_eq_some_iff] at hx
    obtain ⟨z, hz, rfl⟩ := hx
    rw [hval i z hz]
    exact (viewA_rel hsr (M2 := without st θ M) (fun b hb => hb.1) (fun n o hn hnil hb => hb.2 ⟨n, o, hn, hnil, rfl⟩) (ev_rel hsr z) hv).1
  · rintro e w' ⟨v, rfl, hr, hk⟩
    have hsr' := hsr.ext hk
    exact ⟨_, h, ⟨θ, M, hsr'.put hd (hr.mono (fun _ _ _ => rfl) (fun b _ hb => hsr.mlt b hb)) (lives_isP _ hcall.1), ⟨hk.size, fun b hb hn => hk.same b hb (by omega), hk.os, hk.tape, hk.output⟩, fun _ _ _ => rfl, fun _ _ h => h⟩, by cases o.dst <;> rfl⟩
end
end AM
end
/- The abstract machine, part 43: functions whose result is a new array, one's own from then on. -/
section
namespace AM
open Go
def NCall (P : Program) (f : FuncId) (args : List AV) (k : Nat) (es : List (List PV)) : Prop :=
  ∀ (θ : Nat → Loc) (M : Nat → Prop) (w : World) (vs : Array Value), (∀ b, M b → b < w.heap.size) → vs.size = args.length → (∀ (i : Nat) (x : AV), args[i]? = some x → ARel θ M w x (vs.getD i undef)) →
    Calls P f vs w fun e w' => ∃ v l, e = .returned v ∧ Keeps (fun b => w.heap.size ≤ b) w w' ∧ (l.nil = false → w.heap.size ≤ l.blk ∧ l.blk < w'.heap.size) ∧ (∀ θ' M', ORel θ' M' w' l (.arr k es)) ∧ (l.nil = true → v = .slice none 0 0) ∧ (l.nil = false → v = .slice (some ⟨l.blk, 0, none⟩) es.length l.cap)
def viewN (k : Nat) (os : Nat → Option AO) : AV → Option (List (List PV))
  | .p (.val (.slice none 0 0)) => some []
  | .own n len => match os n with
    | some (.arr k' es) => if k' = k ∧ len = es.length ∧ (es.all fun e => e.all PV.isVal) = true then some es else none
    | _ => none
  | _ => none
section
variable {P : Program} {r : RB} {N B : Nat} {S : Nat → Prop} {θ : Nat → Loc} {M : Nat → Prop} {w : World} {st : St} {a : Act} {Q : AEx → St → Prop}
theorem ncall_of_awp {f : FuncId} {fn : Func} {body : Code} {v q : List Nat} {args : List AV} {k : Nat} {es : List (List PV)} {i : Nat} (hf : P.funcs[f]? = some fn) (hb : fn.body = some body) (hi : fn.results.toList = [.tmp i]) (hargs : args.all AV.isP = true)
    (h : AWP P ⟨⟨none, fun _ => False⟩, 0, v, q⟩ fn.ntmps body (St.init args) (fun e s => (e = .normal ∨ e = .ret) ∧ viewN k s.o (s.t i) = some es)) : NCall P f args k es := by
  intro θ M w vs hM hsz hrel
  refine calls_of_wp hf hb ((wpIn_wide (n := 0)).1 ?_)
  have hH : SRel 0 w.heap.size (fun _ => False) θ M w (Hp fun _ => none) a0 :=
    ⟨Nat.zero_le _, fun _ => .undef _, (fun n o hn => by cases hn), (fun n o hn => by cases hn), (fun n m hn => by cases hn), Nat.le_refl _, hM, ⟨fun _ => AV.lives_undef _, (fun m o hm => by cases hm)⟩⟩
  have h0 := hH.start (fn := fn) hsz hrel (fun i x hx => lives_isP _ (List.all_eq_true.1 hargs x (List.mem_of_getElem? hx)))
  refine wpIn_mono (h _ _ θ M w _ h0) ?_
  rintro e a' w' ⟨ae, st', rfl, ⟨hae, hr⟩, ⟨θ', M', hs', hk, ht, hm⟩, hd⟩
  have hrr : (results fn a'.tmps).run P w' = .ok (a'.tmps.getD i undef) w' := by
    have hus' : (fn.results.mapM (resSem a'.tmps)).run P w' = .ok #[a'.tmps.getD i undef] w' := by
      rw [Array.mapM_eq_mapM_toList, Sem.run_map, hi]
      simp [resSem]
    rw [results_eq]
    simp only [Sem.run_bind, hus', Result.andThen_ok, Sem.run_pure]
    rfl
  have hpost : ∃ v, (results fn a'.tmps).run P w' = .ok v w' ∧ ∃ v' l, Ending.returned v = .returned v' ∧ Keeps (fun b => w.heap.size ≤ b) w w' ∧ (l.nil = false → w.heap.size ≤ l.blk ∧ l.blk < w'.heap.size) ∧ (∀ θ' M', ORel θ' M' w' l (.arr k es)) ∧ (l.nil = true → v' = .slice none 0 0) ∧ (l.nil = false → v' = .slice (some ⟨l.blk, 0, none⟩) es.length l.cap) := by
    have hv := hs'.tm i
    generalize hx : st'.t i = x at hv hr
    unfold viewN at hr
    split at hr
    · cases hr
      refine ⟨_, hrr, _, ⟨0, 0, true⟩, rfl, hk.mono (fun b hb => hb.elim id False.elim), (fun hnil => by cases hnil), (fun θ2 M2 => ⟨fun i e he => by simp at he, .inl ⟨rfl, rfl⟩⟩), (fun _ => ?_), (fun hnil => by cases hnil)⟩
      generalize a'.tmps.getD i undef = v at hv
      cases hv with
      | p _ _ h => cases h with
        | val _ _ => rfl
    · rename_i n len
      split at hr
      · rename_i k' es' hn
        split at hr
        · rename_i hc
          cases hr
          obtain ⟨rfl, hlen, hall⟩ := hc
          rw [← hlen]
          refine ⟨_, hrr, _, θ' n, rfl, hk.mono (fun b hb => hb.elim id False.elim), fun hnil => ?_, fun θ2 M2 => ?_, fun hnil => ?_, fun hnil => ?_⟩
          · obtain ⟨h1, h2⟩ := hs'.lv n _ hn hnil
            exact ⟨h2.elim id False.elim, hs'.mlt _ h1⟩
          · obtain ⟨hkk, hob⟩ := hs'.ob n _ hn
            refine ⟨hkk, hob.imp id (fun ⟨q1, q2, cur, e, q3, q4, q5, q6⟩ => ⟨q1, q2, cur, e, q3, q4, q5, fun i e' j x hi hj => ?_⟩)⟩
            have h1 := List.all_eq_true.1 hall e' (List.mem_of_getElem? hi)
            have h2 := List.all_eq_true.1 h1 x (List.mem_of_getElem? hj)
            exact (q6 i e' j x hi hj).isVal h2 _ _
          · generalize a'.tmps.getD i undef = v at hv
            cases hv with
            | own _ _ h0 _ => rw [hnil] at h0; cases h0
            | ownNil _ h0 => rfl
          · generalize a'.tmps.getD i undef = v at hv
            cases hv with
            | own _ _ h0 _ => rfl
            | ownNil _ h0 => rw [hnil] at h0; cases h0
        · cases hr
      · cases hr
    · cases hr
  rcases hae with rfl | rfl
  · exact ⟨hd, hpost⟩
  · exact ⟨hd, hpost⟩
theorem astep_ncall {K : St → Prop} {o : Oper} {c : Call} {f : FuncId} (ho : o.op = .call c) {d : Nat} (hdst : o.dst = some d) (hd : d < N) (hc : c.callee = .value (.func f)) (hf : callable P f = true) {args : List AV} (hargs : viewAs st.o (c.args.toList.map (ev st.t)) = some args) {k : Nat} {es : List (List PV)} (hcall : NCall P f args k es)
    (hfree : st.o (r.b + d) = none) (h : K ((st.setO (r.b + d) (.arr k es)).put o.dst (.own (r.b + d) es.length))) : AStep P r N o st K := by
  intro B S θ M w a Q hsr
  refine ⟨fun _ _ => trivial, ?_⟩
  rw [Oper.semAt_eq _ _ _ (by rw [ho]; intro c h; cases h), run_call ho hc hf]
  refine ⟨fun h => by simp [Wd] at h, callsIn_of_calls ?_⟩
  obtain ⟨hl, hg⟩ := viewAs_get hargs
  have hval : ∀ (i : Nat) (z : Operand), c.args.toList[i]? = some z → (c.args.map a.eval).getD i undef = a.eval z := fun i z hz => by
    have : c.args[i]? = some z := by simpa using hz
    simp [Array.getD_eq_getD_getElem?, this]
  refine Calls.mono (hcall θ (without st θ M) w (c.args.map a.eval) (fun b hb => hsr.mlt b hb.1) (by rw [hl]; simp) (fun i y hy => ?_)) ?_
  · obtain ⟨x, hx, hv⟩ := hg i y hy
    simp only [List.getElem?_map, Option.map_eq_some_iff] at hx
    obtain ⟨z, hz, rfl⟩ := hx
    rw [hval i z hz]
    exact (viewA_rel hsr (M2 := without st θ M) (fun b hb => hb.1) (fun n o hn hnil hb => hb.2 ⟨n, o, hn, hnil, rfl⟩) (ev_rel hsr z) hv).1
  · rintro e w' ⟨v, l, rfl, hk, hblk, hob, hn1, hn2⟩
    have hnew := hsr.new (d := r.b + d) hfree (w' := w') (l := l) (o := .arr k es) hk.size (fun b hb => hk.same b hb (by omega)) hblk (hob _ _) (AO.lives_arr _ _ _)
    have hvr : ARel (updL θ (r.b + d) l) (fun b => M b ∨ (l.nil = false ∧ b = l.blk)) w' (.own (r.b + d) es.length) v := by
      obtain ⟨_, ho2⟩ := hob θ M
      rcases ho2 with ⟨h1, h2⟩ | ⟨h1, h2, _⟩
      · rw [hn1 h1, h2]
        exact .ownNil _ (by simpa using h1)
      · rw [hn2 h1]
        have := ARel.own (θ := updL θ (r.b + d) l) (M := fun b => M b ∨ (l.nil = false ∧ b = l.blk)) (w := w') (r.b + d) es.length (by simpa using h1) (by simpa using h2)
        simpa using this
    refine ⟨_, h, ⟨_, _, hnew.put (d := o.dst) (fun j hj => by rw [hdst] at hj; cases hj; exact hd) hvr (fun n hn => ?_), ⟨hk.size, fun b hb hn => hk.same b hb (by omega), hk.os, hk.tape, hk.output⟩, fun n hn _ => updL_other (by omega), fun b _ hb => .inl hb⟩, by cases o.dst <;> rfl⟩
    simp only [AV.clean, bne_eq_false_iff_eq] at hn
    subst hn
    show (upd st.o (r.b + d) (some (.arr k es)) (r.b + d)).isSome = true
    simp
end
end AM
end
/- The abstract machine, part 38: maps that remember what a function gives. -/
section
namespace AM
open Go
def MemoO (n : Nat) (g : List Int → Int) : Obj → Prop := fun o => ∃ es clock, o = .map es clock ∧ ∀ e ∈ es.toList, ∃ ks : List Int, ks.length = n ∧ ks.all inR = true ∧ e.key = .agg (ks.map (Value.int .i64)).toArray ∧ e.val = .int .i64 (g ks)
def KeyOk (P : Program) (k : TypeId) (n : Nat) : Prop := WideMaps.KeyLaw P k ∧ ∀ ks : List Int, ks.length = n → ks.all inR = true → ∃ l, keyOf P k (.agg (ks.map (Value.int .i64)).toArray) = some l
theorem ints_inj {a b : List Int} (h : (Value.agg (a.map (Value.int .i64)).toArray) = .agg (b.map (Value.int .i64)).toArray) : a = b := by
  simp only [Value.agg.injEq] at h
  have h := congrArg Array.toList h
  simp only at h
  exact (List.map_inj_right (fun x y e => by cases e; rfl)).1 h
section
variable {P : Program} {r : RB} {N B : Nat} {S : Nat → Prop} {θ : Nat → Loc} {M : Nat → Prop} {w : World} {st : St} {a : Act} {o : Oper} {K : St → Prop}
theorem astep_makeMap {t : TypeId} {dd n : Nat} {g : List Int → Int} (ho : o.op = .makeMap t none) (hd : o.dst = some dd) (hN : dd < N) (hfree : st.o (r.b + dd) = none)
    (h : K ((st.setO (r.b + dd) (.obj (MemoO n g))).put o.dst (.mp (r.b + dd)))) : AStep P r N o st K := by
  intro B S θ M w a Q hs
  refine ⟨fun _ _ => trivial, ?_⟩
  rw [Oper.semAt_eq _ _ _ (by rw [ho]; intro c h; cases h)]
  have hrun : (execOp a.eval o).run P w = .ok (.value (.map (some w.heap.size))) (w.alloc (.map #[] 0)) := by
    simp [execOp, ho, Instr.makeMap]
  rw [hrun]
  have hk : ∀ b, b < w.heap.size → (w.alloc (.map #[] 0)).heap[b]? = w.heap[b]? := fun b hb => alloc_old w _ hb
  have hS := hs.new (d := r.b + dd) hfree (w' := w.alloc (.map #[] 0)) (l := ⟨w.heap.size, 0, false⟩) (o := .obj (MemoO n g)) (by simp) hk (fun _ => ⟨Nat.le_refl _, by simp⟩)
    ⟨rfl, _, alloc_new w _, #[], 0, rfl, by simp⟩ (AO.lives_obj _ _)
  refine ⟨_, h, ⟨_, _, hS.put (d := o.dst) (fun k e => by rw [hd] at e; cases e; exact hN) (x := .mp (r.b + dd)) (v := .map (some w.heap.size)) ?_ ?_, Keeps.alloc _ _ _, fun n hn _ => updL_other (by omega), fun b _ hb => .inl hb⟩, by cases o.dst <;> rfl⟩
  · have := ARel.mp (θ := updL θ (r.b + dd) ⟨w.heap.size, 0, false⟩) (M := fun b => M b ∨ (false = false ∧ b = w.heap.size)) (w := w.alloc (.map #[] 0)) (r.b + dd)
    simpa using this
  · intro m hm
    simp only [AV.clean, bne_eq_false_iff_eq] at hm
    subst hm
    simp [St.setO]
theorem tyOf_mp {t k e : TypeId} (hk : (tyOf P t).k = .mp k e) : P.underlying t = some (.map k e) := by
  obtain ⟨i, u, hi, hu⟩ := tyOf_ne hk (by intro h; cases h)
  simp only [tyOf, hi, hu] at hk
  rw [hu]
  cases u <;> simp at hk
  rw [hk.1, hk.2]
theorem rel_mp {x : AV} {v : Value} {m : Nat} (h : ARel θ M w x v) (hx : x = .mp m) : v = .map (some (θ m).blk) := by subst hx; cases h; rfl
theorem memo_find {k : TypeId} {n : Nat} {g : List Int → Int} (hk : KeyOk P k n) {ks : List Int} (hl : ks.length = n) (hr : ks.all inR = true) {es : Array MapEntry} (hes : ∀ e ∈ es.toList, ∃ ks : List Int, ks.length = n ∧ ks.all inR = true ∧ e.key = .agg (ks.map (Value.int .i64)).toArray ∧ e.val = .int .i64 (g ks)) (w : World) :
    ((Instr.findKey k (.agg (ks.map (Value.int .i64)).toArray) es.toList).run P w = .ok none w) ∨ ∃ j e, (Instr.findKey k (.agg (ks.map (Value.int .i64)).toArray) es.toList).run P w = .ok (some (j, .int .i64 (g ks))) w ∧ es.toList[j]? = some e ∧ e.key = .agg (ks.map (Value.int .i64)).toArray := by
  obtain ⟨l, hkl⟩ := hk.2 ks hl hr
  rcases hk.1.find w hkl es.toList (fun e he => by
    obtain ⟨ks', h1, h2, h3, _⟩ := hes e he
    rw [h3]; exact hk.2 ks' h1 h2) with ⟨h1, _⟩ | ⟨j, e, h1, h2, h3⟩
  · exact .inl h1
  · obtain ⟨ks', g1, g2, g3, g4⟩ := hes e (List.mem_of_getElem? h2)
    rw [g3] at h3
    have := ints_inj h3
    subst this
    rw [g4] at h1
    exact .inr ⟨j, e, h1, h2, g3⟩
theorem astep_lookup {t k e : TypeId} {x i : Operand} {m n : Nat} {g : List Int → Int} {cs : List AV} {ks : List Int} (ho : o.op = .lookup t x i true) (hd : ∀ k, o.dst = some k → k < N) (ht : (tyOf P t).k = .mp k e) (hz : ∀ w, (zeroValue e).run P w = .ok (.int .i64 0) w) (hk : KeyOk P k n)
    (hx : ev st.t x = .mp m) (hm : st.o m = some (.obj (MemoO n g))) (hi : ev st.t i = .agg cs) (hks : intsOf cs = some ks) (hl : ks.length = n) (hr : ks.all inR = true)
    (h1 : K (st.put o.dst (.tup [.p (.val (.int .i64 (g ks))), .p (.val (.bool true))]))) (h2 : K (st.put o.dst (.tup [.p (.val (.int .i64 0)), .p (.val (.bool false))]))) : AStep P r N o st K := by
  intro B S θ M w a Q hs
  refine ⟨fun _ _ => trivial, ?_⟩
  rw [Oper.semAt_eq _ _ _ (by rw [ho]; intro c h; cases h)]
  have hxv := rel_mp (ev_rel hs x) hx
  have hiv := intsOf_rel (ev_rel hs i) hi hks
  obtain ⟨_, ob, hob, es, clock, rfl, hes⟩ := hs.ob m _ hm
  have hu : P.underlying t = some (.map k e) := tyOf_mp ht
  have hchk : ∀ em, (Instr.checkKey em 10000 k (.agg (ks.map (Value.int .i64)).toArray)).run P w = .ok () w := fun em => by
    obtain ⟨l, hkl⟩ := hk.2 ks hl hr
    exact hk.1.check w em hkl
  have fin : ∀ (v : Value) (b : Bool) (n : Int), v = .int .i64 n → K (st.put o.dst (.tup [.p (.val (.int .i64 n)), .p (.val (.bool b))])) → ∃ st', K st' ∧ Fin r N B S θ M w a st' (a.put o.dst (.tuple #[v, .bool b])) w := by
    intro v b n hv hK
    subst hv
    refine ⟨_, hK, (Adv.put hs hd ?_ ?_).toM, by cases o.dst <;> rfl⟩
    · refine .tup _ _ rfl (fun i x hx => ?_)
      cases i with
      | zero => cases hx; exact .p _ _ (.val _ rfl)
      | succ i => cases i with
        | zero => cases hx; exact .p _ _ (.val _ rfl)
        | succ i => simp at hx
    · exact lives_isP _ rfl
  rcases memo_find hk hl hr hes w with hf | ⟨j, e', hf, _, _⟩
  · have hrun : (execOp a.eval o).run P w = .ok (.value (.tuple #[.int .i64 0, .bool false])) w := by
      simp [execOp, ho, hxv, hiv, Instr.lookup, run_und hu, getObj, Sem.run, hob, hchk, hf, hz]
    rw [hrun]
    exact fin _ false _ rfl h2
  · have hrun : (execOp a.eval o).run P w = .ok (.value (.tuple #[.int .i64 (g ks), .bool true])) w := by
      simp [execOp, ho, hxv, hiv, Instr.lookup, run_und hu, getObj, Sem.run, hob, hchk, hf]
    rw [hrun]
    exact fin _ true _ rfl h1
theorem astep_mapUpdate {t k e : TypeId} {x i v : Operand} {m n : Nat} {g : List Int → Int} {cs : List AV} {ks : List Int} (ho : o.op = .mapUpdate t x i v) (hd : o.dst = none) (ht : (tyOf P t).k = .mp k e) (hk : KeyOk P k n)
    (hx : ev st.t x = .mp m) (hm : st.o m = some (.obj (MemoO n g))) (hi : ev st.t i = .agg cs) (hks : intsOf cs = some ks) (hl : ks.length = n) (hr : ks.all inR = true) (hv : ev st.t v = .p (.val (.int .i64 (g ks)))) (h1 : K st) : AStep P r N o st K := by
  intro B S θ M w a Q hs
  refine ⟨fun _ _ => trivial, ?_⟩
  rw [Oper.semAt_eq _ _ _ (by rw [ho]; intro c h; cases h)]
  have hxv := rel_mp (ev_rel hs x) hx
  have hiv := intsOf_rel (ev_rel hs i) hi hks
  have hvv := rel_val (ev_rel hs v) hv
  obtain ⟨hnil, ob, hob, es, clock, rfl, hes⟩ := hs.ob m _ hm
  have hu : P.underlying t = some (.map k e) := tyOf_mp ht
  have hchk : ∀ em, (Instr.checkKey em 10000 k (.agg (ks.map (Value.int .i64)).toArray)).run P w = .ok () w := fun em => by
    obtain ⟨l, hkl⟩ := hk.2 ks hl hr
    exact hk.1.check w em hkl
  have hlt : (θ m).blk < w.heap.size := hs.mlt _ (hs.lv m _ hm hnil).1
  have fin : ∀ es' clock', (∀ e ∈ es'.toList, ∃ ks : List Int, ks.length = n ∧ ks.all inR = true ∧ e.key = .agg (ks.map (Value.int .i64)).toArray ∧ e.val = .int .i64 (g ks)) → ∃ st', K st' ∧ Fin r N B S θ M w a st' (a.put o.dst undef) (w.putObj (θ m).blk (.map es' clock')) := by
    intro es' clock' hes'
    have hkk : ∀ b, b ≠ (θ m).blk → (w.putObj (θ m).blk (.map es' clock')).heap[b]? = w.heap[b]? := fun b hb => World.putObj_heap_other hb
    have hS := hs.upd (o' := .obj (MemoO n g)) hm hnil (by simp) hkk ⟨hnil, _, World.putObj_heap_same hlt, es', clock', rfl, hes'⟩ (AO.lives_obj _ _)
    have e9 : st.setO m (.obj (MemoO n g)) = st := by
      unfold St.setO
      have : upd st.o m (some (.obj (MemoO n g))) = st.o := by
        funext q; unfold upd; split
        · rename_i hq; rw [hq, hm]
        · rfl
      rw [this]
    rw [e9] at hS
    rw [hd]
    exact ⟨st, h1, ⟨θ, M, hS, Keeps.of_upd hs hm hnil (by simp) hkk rfl rfl rfl, fun _ _ _ => rfl, fun _ _ h => h⟩, rfl⟩
  rcases memo_find hk hl hr hes w with hf | ⟨j, e', hf, hj, hkey⟩
  · have hrun : (execOp a.eval o).run P w = .ok .skip (w.putObj (θ m).blk (.map (es.push { key := .agg (ks.map (Value.int .i64)).toArray, val := .int .i64 (g ks), born := clock }) (clock + 1))) := by
      simp [execOp, ho, hxv, hiv, hvv, Instr.mapUpdate, run_und hu, getObj, setObj, Sem.run, hob, hchk, hf, World.putObj]
    rw [hrun]
    refine fin _ _ fun e he => ?_
    simp only [Array.toList_push, List.mem_append, List.mem_singleton] at he
    rcases he with he | rfl
    · exact hes e he
    · exact ⟨ks, hl, hr, rfl, rfl⟩
  · have hj' : es[j]? = some e' := by simpa using hj
    obtain ⟨l, hkl⟩ := hk.2 ks hl hr
    have hst := hk.1.stays w hkl
    have hrun : (execOp a.eval o).run P w = .ok .skip (w.putObj (θ m).blk (.map (es.modify j fun e => { e with key := .agg (ks.map (Value.int .i64)).toArray, val := .int .i64 (g ks) }) clock)) := by
      simp [execOp, ho, hxv, hiv, hvv, Instr.mapUpdate, run_und hu, getObj, setObj, Sem.run, hob, hchk, hf, World.putObj, hj', hkey, hst]
    rw [hrun]
    refine fin _ _ fun e he => ?_
    obtain ⟨q, hq⟩ := List.mem_iff_getElem?.1 he
    have hq : (es.modify j fun e => { e with key := .agg (ks.map (Value.int .i64)).toArray, val := .int .i64 (g ks) })[q]? = some e := by rw [← Array.getElem?_toList]; exact hq
    rw [Array.getElem?_modify] at hq
    split at hq
    · cases hes2 : es[q]? with
      | none => rw [hes2] at hq; cases hq
      | some e2 => rw [hes2] at hq; cases hq; exact ⟨ks, hl, hr, rfl, rfl⟩
    · exact hes e (by rw [List.mem_iff_getElem?]; exact ⟨q, by simpa using hq⟩)
end
end AM
end
/- The abstract machine, part 18: operations evaluated by rewriting. -/
section
namespace AM
open Go
theorem T_nil (i : Nat) : T [] i = .undef := rfl
theorem T_cons (j : Nat) (x : AV) (l : List (Nat × AV)) (i : Nat) : T ((j, x) :: l) i = if i = j then x else T l i := rfl
theorem O_nil (i : Nat) : O [] i = none := rfl
theorem O_cons (j : Nat) (x : AO) (l : List (Nat × AO)) (i : Nat) : O ((j, x) :: l) i = if i = j then some x else O l i := rfl
theorem upd_T (l : List (Nat × AV)) (d : Nat) (x : AV) : upd (T l) d x = T ((d, x) :: l) := rfl
theorem upd_O (l : List (Nat × AO)) (d : Nat) (x : AO) : upd (O l) d (some x) = O ((d, x) :: l) := rfl
abbrev i64 (n : Int) : AV := .p (.val (.int .i64 n))
abbrev bl (b : Bool) : AV := .p (.val (.bool b))
theorem put_some (t : Nat → AV) (o : Nat → Option AO) (d : Nat) (x : AV) : St.put ⟨t, o⟩ (some d) x = ⟨upd t d x, o⟩ := rfl
theorem put_none (s : St) (x : AV) : St.put s none x = s := rfl
theorem setO_mk (t : Nat → AV) (o : Nat → Option AO) (n : Nat) (x : AO) : St.setO ⟨t, o⟩ n x = ⟨t, upd o n (some x)⟩ := rfl
def Ter (n : Nat) (l : List (Nat × AV)) : List (Nat × AV) := l.map fun p => (p.1, p.2.purge n)
def Oer (n : Nat) : List (Nat × AO) → List (Nat × AO)
  | [] => []
  | (j, x) :: l => if j = n then Oer n l else (j, x.purge n) :: Oer n l
theorem T_purge (n : Nat) (l : List (Nat × AV)) : (fun i => (T l i).purge n) = T (Ter n l) := by
  funext i
  induction l with
  | nil => rfl
  | cons p r ih =>
    simp only [Ter, List.map_cons, T]
    split
    · rfl
    · exact ih
theorem O_purge (n : Nat) (l : List (Nat × AO)) : (fun m => if m = n then none else (O l m).map (AO.purge n)) = O (Oer n l) := by
  funext i
  induction l with
  | nil => simp [Oer, O]
  | cons p r ih =>
    obtain ⟨j, x⟩ := p
    have ih : (if i = n then none else (O r i).map (AO.purge n)) = O (Oer n r) i := ih
    simp only [Oer]
    by_cases hj : j = n
    · subst hj
      simp only [if_true, O]
      by_cases hi : i = j
      · subst hi; simp only [if_true] at ih ⊢; exact ih
      · simp only [hi, if_false] at ih ⊢; exact ih
    · simp only [hj, if_false, O]
      by_cases hi : i = j
      · subst hi; simp [hj]
      · simp only [hi, if_false] at ih ⊢; exact ih
theorem purge_mk (n : Nat) (l : List (Nat × AV)) (m : List (Nat × AO)) : St.purge n ⟨T l, O m⟩ = ⟨T (Ter n l), O (Oer n m)⟩ := by
  unfold St.purge
  simp only [← T_purge, ← O_purge]
theorem Ter_nil (n : Nat) : Ter n [] = [] := rfl
theorem Ter_cons (n j : Nat) (x : AV) (l : List (Nat × AV)) : Ter n ((j, x) :: l) = (j, x.purge n) :: Ter n l := rfl
theorem purge_p (n : Nat) (x : PV) : (AV.p x).purge n = .p x := rfl
theorem purge_undef (n : Nat) : AV.undef.purge n = .undef := rfl
theorem purge_ptr (n m off : Nat) : (AV.ptr m off).purge n = if m = n then .undef else .ptr m off := by
  unfold AV.purge; by_cases h : m = n <;> simp [AV.clean, h]
theorem purge_eptr (n m k i off : Nat) : (AV.eptr m k i off).purge n = if m = n then .undef else .eptr m k i off := by
  unfold AV.purge; by_cases h : m = n <;> simp [AV.clean, h]
theorem purge_own (n m len : Nat) : (AV.own m len).purge n = if m = n then .undef else .own m len := by
  unfold AV.purge; by_cases h : m = n <;> simp [AV.clean, h]
theorem purge_csl (n m off k len : Nat) : (AV.csl m off k len).purge n = if m = n then .undef else .csl m off k len := by
  unfold AV.purge; by_cases h : m = n <;> simp [AV.clean, h]
theorem purge_tup (n : Nat) (l : List AV) : (AV.tup l).purge n = if AV.clean.cleanL n l then .tup l else .undef := rfl
theorem purge_agg (n : Nat) (l : List AV) : (AV.agg l).purge n = if AV.clean.cleanL n l then .agg l else .undef := rfl
theorem purge_cells (n : Nat) (l : List AV) : (AO.cells l).purge n = .cells (l.map (AV.purge n)) := rfl
theorem purge_arr (n k : Nat) (es : List (List PV)) : (AO.arr k es).purge n = .arr k es := rfl
def goCall : Op → Bool
  | .call c => match c.callee with | .value _ => true | _ => false
  | _ => false
def isDefer : Op → Bool
  | .defer _ => true
  | _ => false
def dstOk (N : Nat) : Option Nat → Bool
  | none => true
  | some d => decide (d < N)
def EA (nb : Nat) (dst : Option Nat) (s : St) (K : St → Prop) : Option Eff → Prop
  | some e => match e.apply nb dst s with
    | some s' => K s'
    | none => False
  | none => False
def EC (P : Program) (s : St) (K : AV → Prop) : Op → Prop
  | .call ⟨.value (.func f), as, _⟩ => callable P f = true ∧ ∃ args res, viewAs s.o (as.toList.map (ev s.t)) = some args ∧ PCall P f args res ∧ (res.scal = true ∨ as.toList.map (ev s.t) = args ∨ FCall P f args res) ∧ K res
  | _ => False
def EN (P : Program) (nb : Nat) (dst : Option Nat) (s : St) (K : St → Prop) : Op → Prop
  | .call ⟨.value (.func f), as, _⟩ => callable P f = true ∧ ∃ args k es d, viewAs s.o (as.toList.map (ev s.t)) = some args ∧ NCall P f args k es ∧ dst = some d ∧ s.o (nb + d) = none ∧ K ((s.setO (nb + d) (.arr k es)).put dst (.own (nb + d) es.length))
  | _ => False
def isV (v : List Nat) : Op → Bool
  | .call c => match c.callee with
    | .value (.func f) => v.contains f
    | .value _ => true
    | _ => false
  | _ => false
def EVk (P : Program) (r : RB) (N : Nat) (fv : AV) (args : List AV) (dst : Option Nat) (s : St) (K : St → Prop) : Prop :=
  dstOk N dst = true ∧ ∃ mv bd R, VCallM P mv bd fv args s.o R ∧ (∀ n, bd ≤ n → s.o n = none) ∧ r.b ≤ bd ∧ (∀ n, mv n → r.mv n ∨ r.b ≤ n) ∧
    ∀ res os', R res os' → (Hp os').closed → res.lives os' → ∃ t' : Nat → AV, (∀ i, t' i = .undef ∨ (t' i = s.t i ∧ (s.t i).stays mv)) ∧ (∀ i, (t' i).lives os') ∧ K (St.put ⟨t', os'⟩ dst res)
def EVq (P : Program) (r : RB) (N : Nat) (fv : AV) (args : List AV) (dst : Option Nat) (s : St) (K : St → Prop) : Prop :=
  dstOk N dst = true ∧ ∃ bd res, VCall P bd fv args s.o (fun x os' => x = res ∧ os' = s.o) ∧ (∀ n, bd ≤ n → s.o n = none) ∧ r.b ≤ bd ∧ res.isP = true ∧ K (s.put dst res)
def isQ (q : List Nat) : Operand → Bool
  | .func f => q.contains f
  | _ => false
def EV (P : Program) (r : RB) (N : Nat) (dst : Option Nat) (s : St) (K : St → Prop) : Op → Prop
  | .call c => match c.callee with
    | .value g => if isQ r.q g = true then EVq P r N (ev s.t g) (c.args.toList.map (ev s.t)) dst s K else EVk P r N (ev s.t g) (c.args.toList.map (ev s.t)) dst s K
    | _ => False
  | _ => False
def isM : Op → Bool
  | .makeMap _ none => true
  | .lookup _ _ _ true => true
  | .mapUpdate .. => true
  | _ => false
def EM (P : Program) (r : RB) (N : Nat) (dst : Option Nat) (s : St) (K : St → Prop) : Op → Prop
  | .makeMap _ none => ∃ dd n g, dst = some dd ∧ dd < N ∧ s.o (r.b + dd) = none ∧ K ((s.setO (r.b + dd) (.obj (MemoO n g))).put dst (.mp (r.b + dd)))
  | .lookup t x i true => dstOk N dst = true ∧ ∃ k e m n g cs ks, (tyOf P t).k = .mp k e ∧ (∀ w, (zeroValue e).run P w = .ok (.int .i64 0) w) ∧ KeyOk P k n ∧ ev s.t x = .mp m ∧ s.o m = some (.obj (MemoO n g)) ∧ ev s.t i = .agg cs ∧ intsOf cs = some ks ∧ ks.length = n ∧ ks.all inR = true ∧
      K (s.put dst (.tup [.p (.val (.int .i64 (g ks))), .p (.val (.bool true))])) ∧ K (s.put dst (.tup [.p (.val (.int .i64 0)), .p (.val (.bool false))]))
  | .mapUpdate t x i v => dst = none ∧ ∃ k e m n g cs ks, (tyOf P t).k = .mp k e ∧ KeyOk P k n ∧ ev s.t x = .mp m ∧ s.o m = some (.obj (MemoO n g)) ∧ ev s.t i = .agg cs ∧ intsOf cs = some ks ∧ ks.length = n ∧ ks.all inR = true ∧ ev s.t v = .p (.val (.int .i64 (g ks))) ∧ K s
  | _ => False
theorem EM_sound {P : Program} {r : RB} {N : Nat} {o : Oper} {s : St} {K : St → Prop} (h : EM P r N o.dst s K o.op) : AStep P r N o s K := by
  unfold EM at h
  split at h
  · rename_i t ho
    obtain ⟨dd, n, g, h1, h2, h3, h4⟩ := h
    exact astep_makeMap ho h1 h2 h3 h4
  · rename_i t x i ho
    obtain ⟨h0, k, e, m, n, g, cs, ks, h1, h2, h3, h4, h5, h6, h7, h8, h9, h10, h11⟩ := h
    exact astep_lookup ho (fun k hk => by rw [hk] at h0; simpa [dstOk] using h0) h1 h2 h3 h4 h5 h6 h7 h8 h9 h10 h11
  · rename_i t x i v ho
    obtain ⟨h0, k, e, m, n, g, cs, ks, h1, h3, h4, h5, h6, h7, h8, h9, h10, h11⟩ := h
    exact astep_mapUpdate ho h0 h1 h3 h4 h5 h6 h7 h8 h9 h10 h11
  · exact h.elim
def EO (P : Program) (r : RB) (N : Nat) (o : Oper) (s : St) (K : St → Prop) : Prop :=
  if isM o.op then EM P r N o.dst s K o.op else if isV r.v o.op then EV P r N o.dst s K o.op else if goCall o.op then dstOk N o.dst = true ∧ (EC P s (fun x => K (s.put o.dst x)) o.op ∨ EN P r.b o.dst s K o.op) else (isDefer o.op = false ∧ dstOk N o.dst = true) ∧ EA r.b o.dst s K (eff P (r.b + o.dst.getD 0) o.op (ev s.t) s.o)
def EL (P : Program) (r : RB) (N : Nat) (all : List Oper) : List Oper → St → (St → Prop) → Prop
  | [], s, K => K s
  | o :: rest, s, K => match o.guard with
    | none => EO P r N o s fun s' => EL P r N all rest s' K
    | some (j, want) => match dstOf all j with
      | none => False
      | some t => match s.t t with
        | .p (.val (.bool b)) => dstOk N o.dst = true ∧ (b = want → EO P r N o s fun s' => EL P r N all rest s' K) ∧ (b = !want → EL P r N all rest (s.put o.dst skipped) K)
        | .tup [] => dstOk N o.dst = true ∧ EL P r N all rest (s.put o.dst skipped) K
        | _ => False
theorem dstOk_spec {N : Nat} {d : Option Nat} (h : dstOk N d = true) : ∀ k, d = some k → k < N := by
  intro k hk; subst hk; simpa [dstOk] using h
theorem astep_vcall_q {P : Program} {r : RB} {N : Nat} {s : St} {o : Oper} {K : St → Prop} {c : Call} {g : Operand} {bd : Nat} {res : AV} (ho : o.op = .call c) (hd : ∀ k, o.dst = some k → k < N) (hc : c.callee = .value g)
    (hcall : VCall P bd (ev s.t g) (c.args.toList.map (ev s.t)) s.o (fun x os' => x = res ∧ os' = s.o)) (hbd : ∀ n, bd ≤ n → s.o n = none) (hb : r.b ≤ bd) (h : K (s.put o.dst res)) : AStep P r N o s K := by
  intro B S θ M w a Q hs
  exact astep_vcall ho hd hc hcall hbd hb (fun x os' ⟨e1, e2⟩ _ _ => ⟨s.t, fun _ => .inr rfl, fun i => by rw [e2]; exact hs.cl.1 i, by subst e1 e2; exact h⟩) B S θ M w a Q hs
theorem EO_sound {P : Program} {r : RB} {N : Nat} {o : Oper} {s : St} {K : St → Prop} (h : EO P r N o s K) : AStep P r N o s K := by
  unfold EO at h
  split at h
  · exact EM_sound h
  split at h
  · unfold EV at h
    split at h
    · rename_i c ho
      split at h
      · rename_i g hc
        split at h
        · obtain ⟨h1, bd, res, h2, h3, h4, h5, h6⟩ := h
          exact astep_vcall_q ho (dstOk_spec h1) hc h2 h3 h4 h6
        · obtain ⟨h1, mv, bd, R, h2, h3, h4, h6, h5⟩ := h
          exact astep_vcallM ho (dstOk_spec h1) hc h2 h3 h4 h6 h5
      · exact h.elim
    · exact h.elim
  split at h
  · obtain ⟨h1, h2⟩ := h
    rcases h2 with h2 | h2
    · unfold EC at h2
      split at h2
      · rename_i f as ts ho
        obtain ⟨h3, args, res, h4, h5, h6, h7⟩ := h2
        rcases h6 with h6 | h6 | h6
        · exact astep_call ho (dstOk_spec h1) rfl h3 h4 h5 (.inl h6) h7
        · exact astep_call ho (dstOk_spec h1) rfl h3 h4 h5 (.inr h6) h7
        · exact astep_fcall ho (dstOk_spec h1) rfl h3 h4 h6 h7
      · exact h2.elim
    · unfold EN at h2
      split at h2
      · rename_i f as ts ho
        obtain ⟨h3, args, k, es, d, h4, h5, h6, h7, h8⟩ := h2
        exact astep_ncall ho h6 (dstOk_spec h1 d h6) rfl h3 h4 h5 h7 h8
      · exact h2.elim
  · obtain ⟨⟨h1, h2⟩, h3⟩ := h
    unfold EA at h3
    split at h3
    · rename_i e he
      split at h3
      · rename_i s' hs'
        exact AStep.eff (d := r.b + o.dst.getD 0) (fun c hc => by rw [hc] at h1; cases h1) (dstOk_spec h2) (fun k hk => by rw [hk]; rfl) he hs' h3
      · cases h3
    · cases h3
theorem AStep.mono {P : Program} {r : RB} {N : Nat} {o : Oper} {s : St} {K K' : St → Prop} (h : AStep P r N o s K) (hk : ∀ s, K s → K' s) : AStep P r N o s K' := by
  intro B S θ M w a Q hs
  exact Oper.wpIn_mono (fun a' w' ⟨st', h1, h2⟩ => ⟨st', hk _ h1, h2⟩) (h B S θ M w a Q hs)
theorem EL_sound {P : Program} {r : RB} {N : Nat} {all : List Oper} : ∀ {l : List Oper} {s : St} {K : St → Prop}, EL P r N all l s K → AL P r N all l s K
  | [], s, K, h => .nil h
  | ⟨dst, op, ty, pos, after, none⟩ :: rest, s, K, h => by
    simp only [EL] at h
    exact AL.step ((EO_sound h).mono fun s' h' => EL_sound h')
  | ⟨dst, op, ty, pos, after, some (j, want)⟩ :: rest, s, K, h => by
    simp only [EL] at h
    split at h
    · cases h
    · rename_i t ht
      split at h
      · rename_i b hb
        obtain ⟨h1, h2, h3⟩ := h
        refine AL.guard (dstOk_spec h1) ht (g := some b) (by rw [hb]; rfl) (fun e => (EO_sound (h2 (by simpa using e))).mono fun s' h' => EL_sound h') (fun e => EL_sound (h3 ?_))
        cases b <;> cases want <;> simp_all
      · rename_i hb
        exact AL.guard (dstOk_spec h.1) ht (g := none) (by rw [hb]; rfl) (fun e => by cases e) (fun _ => EL_sound h.2)
      · cases h
theorem awp_ops {P : Program} {r : RB} {N : Nat} {st : St} {Q : AEx → St → Prop} {id : Nat} {ops : List Oper} (h : EL P r N ops ops st (Q .normal)) : AWP P r N (.region id ops.toArray false) st Q := awp_region (EL_sound h)
theorem EL_nil {P : Program} {r : RB} {N : Nat} {all : List Oper} {s : St} {K : St → Prop} : EL P r N all [] s K = K s := rfl
theorem EL_go {P : Program} {r : RB} {N : Nat} {all rest : List Oper} {s : St} {K : St → Prop} {dst : Option Nat} {op : Op} {ty : TypeId} {pos : String} {after : Array Edge} :
    EL P r N all (⟨dst, op, ty, pos, after, none⟩ :: rest) s K = EO P r N ⟨dst, op, ty, pos, after, none⟩ s fun s' => EL P r N all rest s' K := rfl
def EG (P : Program) (r : RB) (N : Nat) (all rest : List Oper) (o : Oper) (want : Bool) (s : St) (K : St → Prop) : AV → Prop
  | .p (.val (.bool b)) => dstOk N o.dst = true ∧ (b = want → EO P r N o s fun s' => EL P r N all rest s' K) ∧ (b = !want → EL P r N all rest (s.put o.dst skipped) K)
  | .tup [] => dstOk N o.dst = true ∧ EL P r N all rest (s.put o.dst skipped) K
  | _ => False
theorem EL_if {P : Program} {r : RB} {N : Nat} {all rest : List Oper} {s : St} {K : St → Prop} {dst : Option Nat} {op : Op} {ty : TypeId} {pos : String} {after : Array Edge} {j : Nat} {want : Bool} :
    EL P r N all (⟨dst, op, ty, pos, after, some (j, want)⟩ :: rest) s K = EG P r N all rest ⟨dst, op, ty, pos, after, some (j, want)⟩ want s K ((dstOf all j).elim .undef s.t) := by
  simp only [EL]
  cases dstOf all j with
  | none => rfl
  | some t =>
    simp only [Option.elim]
    unfold EG
    rfl
theorem EG_bool {P : Program} {r : RB} {N : Nat} {all rest : List Oper} {s : St} {K : St → Prop} {o : Oper} {want b : Bool} :
    EG P r N all rest o want s K (.p (.val (.bool b))) = (dstOk N o.dst = true ∧ (b = want → EO P r N o s fun s' => EL P r N all rest s' K) ∧ (b = !want → EL P r N all rest (s.put o.dst skipped) K)) := rfl
theorem EG_tup {P : Program} {r : RB} {N : Nat} {all rest : List Oper} {s : St} {K : St → Prop} {o : Oper} {want : Bool} :
    EG P r N all rest o want s K (.tup []) = (dstOk N o.dst = true ∧ EL P r N all rest (s.put o.dst skipped) K) := rfl
theorem EO_move {P : Program} {r : RB} {N : Nat} {s : St} {K : St → Prop} {d : Nat} {x : Operand} {ty : TypeId} {pos : String} {after : Array Edge} {g : Option (Nat × Bool)} :
    EO P r N ⟨some d, .move x, ty, pos, after, g⟩ s K = (decide (d < N) = true ∧ K (s.put (some d) (ev s.t x))) := by
  simp [EO, isM, isV, goCall, isDefer, dstOk, EA, eff, Eff.apply]
theorem ev_tmp (t : Nat → AV) (i : Nat) : ev t (.tmp i) = t i := rfl
theorem ev_int (t : Nat → AV) (k : IntKind) (n : Int) : ev t (.const (.int k n)) = .p (.val (.int k n)) := rfl
theorem ev_bool (t : Nat → AV) (b : Bool) : ev t (.const (.bool b)) = bl b := rfl
theorem ev_slice (t : Nat → AV) (a : Option Addr) (l c : Nat) : ev t (.const (.slice a l c)) = .p (.val (.slice a l c)) := rfl
theorem ev_func (t : Nat → AV) (f : FuncId) : ev t (.func f) = .fn (.func f) [] [] := rfl
theorem wrap64 {n : Int} (h1 : -9223372036854775808 ≤ n) (h2 : n < 9223372036854775808) : IntKind.i64.wrap n = n := by
  simp only [IntKind.wrap, IntKind.bits, IntKind.signed]
  simp
  omega
end AM
namespace AM
open Go
def Ret (P : Program) (rs : List ResultVar) (res : AV) : AEx → St → Prop
  | .normal, s => (resVars P s rs).map resOf = some res
  | .ret, s => (resVars P s rs).map resOf = some res
  | .exit _, _ => False
theorem Ret_normal {P : Program} {rs : List ResultVar} {res : AV} {s : St} : Ret P rs res .normal s = ((resVars P s rs).map resOf = some res) := rfl
theorem Ret_ret {P : Program} {rs : List ResultVar} {res : AV} {s : St} : Ret P rs res .ret s = ((resVars P s rs).map resOf = some res) := rfl
theorem thenQ_normal {K : St → Prop} {Q : AEx → St → Prop} {s : St} : thenQ K Q .normal s = K s := rfl
theorem thenQ_ret {K : St → Prop} {Q : AEx → St → Prop} {s : St} : thenQ K Q .ret s = Q .ret s := rfl
theorem thenQ_exit {K : St → Prop} {Q : AEx → St → Prop} {s : St} {i : Nat} : thenQ K Q (.exit i) s = Q (.exit i) s := rfl
theorem blockQ_normal {i : Nat} {Q : AEx → St → Prop} {s : St} : blockQ i Q .normal s = Q .normal s := rfl
theorem blockQ_ret {i : Nat} {Q : AEx → St → Prop} {s : St} : blockQ i Q .ret s = Q .ret s := rfl
theorem blockQ_exit {i j : Nat} {Q : AEx → St → Prop} {s : St} : blockQ i Q (.exit j) s = if j = i then Q .normal s else Q (.exit j) s := rfl
def ixs : Nat → List AV → List (Nat × AV)
  | _, [] => []
  | i, x :: r => (i, x) :: ixs (i + 1) r
theorem T_ixs (l : List AV) : ∀ k i, T (ixs k l) i = if i < k then .undef else l.getD (i - k) .undef := by
  induction l with
  | nil => intro k i; simp [ixs, T]
  | cons x r ih =>
    intro k i
    simp only [ixs, T, ih]
    by_cases h : i = k
    · subst h; simp
    · simp only [h, if_false]
      by_cases h2 : i < k
      · rw [if_pos h2, if_pos (by omega)]
      · rw [if_neg h2, if_neg (by omega)]
        have e : i - k = (i - (k + 1)) + 1 := by omega
        rw [e]; simp
theorem init_ixs (l : List AV) : St.init l = ⟨T (ixs 0 l), O []⟩ := by
  unfold St.init
  congr 1
  funext i
  rw [T_ixs]; simp
theorem pcall_mk {v q : List Nat} {P : Program} {f : FuncId} {fn : Func} {body : Code} {args : List AV} {res : AV} {N : Nat} {rs : List ResultVar} (hf : P.funcs[f]? = some fn) (hb : fn.body = some body) (hN : fn.ntmps = N) (hrs : fn.results.toList = rs) (hargs : args.all AV.isP = true) (hres : res.isP = true)
    (h : AWP P ⟨⟨none, fun _ => False⟩, 0, v, q⟩ N body ⟨T (ixs 0 args), O []⟩ (Ret P rs res)) : PCall P f args res := by
  subst hN hrs
  refine pcall_of_awp (v := v) (q := q) hf hb hargs ?_ hres
  rw [init_ixs]
  refine h.mono fun e s h => ?_
  cases e with
  | normal => exact ⟨.inl rfl, h⟩
  | ret => exact ⟨.inr rfl, h⟩
  | exit i => exact h.elim
end AM
namespace AM
open Go
def RetF (i : Nat) (res : AV) : AEx → St → Prop
  | .normal, s => viewF 0 s.o (s.t i) = some res
  | .ret, s => viewF 0 s.o (s.t i) = some res
  | .exit _, _ => False
theorem RetF_normal {i : Nat} {res : AV} {s : St} : RetF i res .normal s = (viewF 0 s.o (s.t i) = some res) := rfl
theorem RetF_ret {i : Nat} {res : AV} {s : St} : RetF i res .ret s = (viewF 0 s.o (s.t i) = some res) := rfl
theorem fcall_mk {v q : List Nat} {P : Program} {f : FuncId} {fn : Func} {body : Code} {args : List AV} {res : AV} {N i : Nat} (hf : P.funcs[f]? = some fn) (hb : fn.body = some body) (hN : fn.ntmps = N) (hrs : fn.results.toList = [.tmp i]) (hargs : args.all AV.isP = true) (hres : res.isP = true)
    (h : AWP P ⟨⟨none, fun _ => False⟩, 0, v, q⟩ N body ⟨T (ixs 0 args), O []⟩ (RetF i res)) : FCall P f args res := by
  subst hN
  refine fcall_of_awp (v := v) (q := q) hf hb hrs hargs ?_ hres
  rw [init_ixs]
  refine h.mono fun e s h => ?_
  cases e with
  | normal => exact ⟨.inl rfl, h⟩
  | ret => exact ⟨.inr rfl, h⟩
  | exit i => exact h.elim
theorem pcalld_mk {v q : List Nat} {P : Program} {f : FuncId} {fn : Func} {body : Code} {args : List AV} {res : AV} {N : Nat} {rs : List ResultVar} (hf : P.funcs[f]? = some fn) (hb : fn.body = some body) (hN : fn.ntmps = N) (hrs : fn.results.toList = rs) (hargs : args.all AV.isP = true) (hres : res.isP = true)
    (h : AWPd P ⟨⟨none, fun _ => False⟩, 0, v, q⟩ N body ⟨T (ixs 0 args), O []⟩ (Ret P rs res)) : PCall P f args res := by
  subst hN hrs
  refine pcall_of_awpd (v := v) (q := q) hf hb hargs ?_ hres
  rw [init_ixs]
  intro B S θ M w a hs
  refine wpIn_mono (h B S θ M w a hs) ?_
  rintro e a' w' ⟨ae, st', h1, h2, h3⟩
  refine ⟨ae, st', h1, ?_, h3⟩
  cases ae with
  | normal => exact ⟨.inl rfl, h2⟩
  | ret => exact ⟨.inr rfl, h2⟩
  | exit i => exact h2.elim
theorem T_ixs_getD (l : List AV) : (fun i => l.getD i .undef) = T (ixs 0 l) := by
  funext i
  rw [T_ixs]; simp
theorem vcall_mk {mv : Nat → Prop} {P : Program} {f : FuncId} {fn : Func} {body : Code} {bd N : Nat} {v q : List Nat} {fs args cs : List AV} {rs : List ResultVar} {os : Nat → Option AO} {R : AV → (Nat → Option AO) → Prop} (hf : P.funcs[f]? = some fn) (hb : fn.body = some body) (hcal : callable P f = true) (hN : fn.ntmps = N) (hrs : fn.results.toList = rs)
    (h : (Hp os).closed → (∀ n, bd ≤ n → os n = none) → AWP P ⟨⟨none, mv⟩, bd, v, q⟩ N body ⟨T (ixs 0 (fs ++ args ++ cs)), os⟩ (RetS P rs R)) : VCallM P mv bd (.fn (.func f) fs cs) args os R := by
  subst hN hrs
  exact vcall_of_awp (v := v) (q := q) hf hb hcal fun h1 h2 => by rw [T_ixs_getD]; exact h h1 h2
theorem vcalld_mk {mv : Nat → Prop} {P : Program} {f : FuncId} {fn : Func} {body : Code} {bd N : Nat} {v q : List Nat} {fs args cs : List AV} {rs : List ResultVar} {os : Nat → Option AO} {R : AV → (Nat → Option AO) → Prop} (hf : P.funcs[f]? = some fn) (hb : fn.body = some body) (hcal : callable P f = true) (hN : fn.ntmps = N) (hrs : fn.results.toList = rs)
    (h : (Hp os).closed → (∀ n, bd ≤ n → os n = none) → AWPd P ⟨⟨none, mv⟩, bd, v, q⟩ N body ⟨T (ixs 0 (fs ++ args ++ cs)), os⟩ (RetS P rs R)) : VCallM P mv bd (.fn (.func f) fs cs) args os R := by
  subst hN hrs
  exact vcall_of_awpd (v := v) (q := q) hf hb hcal fun h1 h2 => by rw [T_ixs_getD]; exact h h1 h2
end AM
namespace AM
open Go
def RetN (i k : Nat) (es : List (List PV)) : AEx → St → Prop
  | .normal, s => viewN k s.o (s.t i) = some es
  | .ret, s => viewN k s.o (s.t i) = some es
  | .exit _, _ => False
theorem RetN_normal {i k : Nat} {es : List (List PV)} {s : St} : RetN i k es .normal s = (viewN k s.o (s.t i) = some es) := rfl
theorem RetN_ret {i k : Nat} {es : List (List PV)} {s : St} : RetN i k es .ret s = (viewN k s.o (s.t i) = some es) := rfl
theorem ncall_mk {v q : List Nat} {P : Program} {f : FuncId} {fn : Func} {body : Code} {args : List AV} {N i k : Nat} {es : List (List PV)} (hf : P.funcs[f]? = some fn) (hb : fn.body = some body) (hN : fn.ntmps = N) (hrs : fn.results.toList = [.tmp i]) (hargs : args.all AV.isP = true)
    (h : AWP P ⟨⟨none, fun _ => False⟩, 0, v, q⟩ N body ⟨T (ixs 0 args), O []⟩ (RetN i k es)) : NCall P f args k es := by
  subst hN
  refine ncall_of_awp (v := v) (q := q) hf hb hrs hargs ?_
  rw [init_ixs]
  refine h.mono fun e s h => ?_
  cases e with
  | normal => exact ⟨.inl rfl, h⟩
  | ret => exact ⟨.inr rfl, h⟩
  | exit i => exact h.elim
end AM
end
/- The abstract machine, part 19: the rewriting set, one small rule per case. -/
section
namespace AM
open Go
theorem agg_int {k s b z} : TI.agg ⟨.int k, s, b, z⟩ = some false := rfl
theorem agg_bool {s b z} : TI.agg ⟨.bool, s, b, z⟩ = some false := rfl
theorem agg_str {s b z} : TI.agg ⟨.str, s, b, z⟩ = some false := rfl
theorem agg_sl {e s b z} : TI.agg ⟨.sl e, s, b, z⟩ = some false := rfl
theorem agg_mp {k e s b z} : TI.agg ⟨.mp k e, s, b, z⟩ = some false := rfl
theorem agg_other {s b z} : TI.agg ⟨.other, s, b, z⟩ = some false := rfl
theorem agg_struct {f s b z} : TI.agg ⟨.struct f, s, b, z⟩ = some true := rfl
theorem agg_arr {n e s b z} : TI.agg ⟨.arr n e, s, b, z⟩ = some true := rfl
theorem tc_one {sz : Nat} {x : AV} {r : List AV} : takeCells false sz (x :: r) = some x := rfl
theorem tc_agg {sz : Nat} {cs : List AV} : takeCells true sz cs = if sz ≤ cs.length then some (.agg (cs.take sz)) else none := rfl
section
variable {P : Program} {r : RB} {N : Nat} {s : St} {K : St → Prop} {dst : Option Nat} {ty : TypeId} {pos : String} {after : Array Edge} {g : Option (Nat × Bool)} {os : Nat → Option AO}
theorem isV_no {v : List Nat} {op : Op} (h : goCall op = false) : isV v op = false := by
  unfold isV
  split
  · rename_i c
    split
    · rename_i f hc; simp [goCall, hc] at h
    · rename_i g _ hc; simp [goCall, hc] at h
    · rfl
  · rfl
theorem EO_eff0 {op : Op} (h1 : goCall op = false) (h2 : isDefer op = false) (h3 : isM op = false := by rfl) : EO P r N ⟨dst, op, ty, pos, after, g⟩ s K = (dstOk N dst = true ∧ EA r.b dst s K (eff P (r.b + dst.getD 0) op (ev s.t) s.o)) := by
  simp [EO, h1, h2, h3, isV_no h1]
def EOp (nb N : Nat) (dst : Option Nat) (s : St) (K : St → Prop) (e : Option Eff) : Prop := dstOk N dst = true ∧ EA nb dst s K e
theorem EO_eff {op : Op} (h1 : goCall op = false) (h2 : isDefer op = false) {e : Option Eff} (he : eff P (r.b + dst.getD 0) op (ev s.t) s.o = e) (h3 : isM op = false := by rfl) : EO P r N ⟨dst, op, ty, pos, after, g⟩ s K = EOp r.b N dst s K e := by
  rw [EO_eff0 h1 h2 h3, he]; rfl
theorem EOp_pure {nb d : Nat} {x : AV} : EOp nb N (some d) s K (some (.pure x)) = (decide (d < N) = true ∧ K (s.put (some d) x)) := rfl
theorem EOp_none {nb : Nat} : EOp nb N dst s K none = False := by simp [EOp, EA]
theorem EOp_new {nb d : Nat} {o : AO} {x : AV} : EOp nb N (some d) s K (some (.new o x)) = (decide (d < N) = true ∧ if (s.o (nb + d)).isNone = true then K ((s.setO (nb + d) o).put (some d) x) else False) := by
  simp only [EOp, EA, dstOk, Eff.apply]
  cases hb : (s.o (nb + d)).isNone <;> simp
theorem EOp_upd {nb n : Nat} {o : AO} : EOp nb N none s K (some (.upd n o)) = K (s.setO n o) := by simp [EOp, EA, dstOk, Eff.apply, St.put]
theorem EOp_app {nb d n : Nat} {o : AO} {x : AV} : EOp nb N (some d) s K (some (.app n o x)) = (decide (d < N) = true ∧ if ((s.purge n).o (nb + d)).isNone = true then K (((s.purge n).setO (nb + d) o).put (some d) x) else False) := by
  simp only [EOp, EA, dstOk, Eff.apply]
  cases hb : ((s.purge n).o (nb + d)).isNone <;> simp
theorem EO_move' {x : Operand} : EO P r N ⟨dst, .move x, ty, pos, after, g⟩ s K = EOp r.b N dst s K (some (.pure (ev s.t x))) := EO_eff rfl rfl rfl
theorem EO_assign {x : Operand} : EO P r N ⟨dst, .assign x, ty, pos, after, g⟩ s K = EOp r.b N dst s K (some (.pure (ev s.t x))) := EO_eff rfl rfl rfl
def fPick : AV → AV → AV → Option Eff
  | .p (.val (.bool b)), x, y => some (.pure (if b = true then x else y))
  | _, _, _ => none
theorem fPick_t {x y : AV} : fPick (bl true) x y = some (.pure x) := rfl
theorem fPick_f {x y : AV} : fPick (bl false) x y = some (.pure y) := rfl
theorem fPick_b {b : Bool} {x y : AV} : fPick (bl b) x y = some (.pure (if b = true then x else y)) := rfl
theorem EO_pick {c a b : Operand} : EO P r N ⟨dst, .pick c a b, ty, pos, after, g⟩ s K = EOp r.b N dst s K (fPick (ev s.t c) (ev s.t a) (ev s.t b)) := by
  refine EO_eff rfl rfl ?_
  cases h : ev s.t c with
  | p x => cases x with
    | val v => cases v <;> simp [eff, h, fPick]
    | _ => simp [eff, h, fPick]
  | _ => simp [eff, h, fPick]
def fAlloc (d : Nat) (ti : TI) : Option Eff := if ti.zero.all Value.oneCell' ∧ ti.sz = ti.zero.length ∧ 0 < ti.sz ∧ ti.agg.isSome then some (.new (.cells (pvals ti.zero)) (.ptr d 0)) else none
theorem EO_alloc {t : TypeId} : EO P r N ⟨dst, .alloc t, ty, pos, after, g⟩ s K = EOp r.b N dst s K (fAlloc (r.b + dst.getD 0) (tyOf P t)) := by
  exact EO_eff rfl rfl rfl
theorem cs_agg {cs : List AV} : AV.cs? (.agg cs) = some cs := rfl
theorem cs_p {x : PV} : AV.cs? (.p x) = some [.p x] := rfl
theorem cs_ptr {n o : Nat} : AV.cs? (.ptr n o) = some [.ptr n o] := rfl
theorem cs_own {n o : Nat} : AV.cs? (.own n o) = some [.own n o] := rfl
theorem cs_csl {n o k l : Nat} : AV.cs? (.csl n o k l) = some [.csl n o k l] := rfl
theorem cs_fn {f : Fn} {a b : List AV} : AV.cs? (.fn f a b) = some [.fn f a b] := rfl
theorem cs_mp {n : Nat} : AV.cs? (.mp n) = some [.mp n] := rfl
theorem EO_box {t : TypeId} {x : Operand} : EO P r N ⟨dst, .box t x, ty, pos, after, g⟩ s K = EOp r.b N dst s K ((ev s.t x).cs?.map fun cs => .new (.cells cs) (.ptr (r.b + dst.getD 0) 0)) := by
  exact EO_eff rfl rfl rfl
def fLoad (ag : Option Bool) (sz : Nat) (os : Nat → Option AO) (x : AV) : Option Eff :=
  match ag with
    | none => none
    | some g => match x with
      | .ptr n off => match os n with
        | some (.cells cs) => (takeCells g sz (cs.drop off)).map .pure
        | _ => none
      | .eptr n k i off => match os n with
        | some (.arr k' es) => if k = k' ∧ i < es.length then (takeCells g sz (((es.getD i []).drop off).map .p)).map .pure else none
        | _ => none
      | .p (.ro cs) => (takeCells g sz (cs.map .p)).map .pure
      | _ => none
def fLoadP (g : Bool) (sz off : Nat) : Option AO → Option Eff
  | some (.cells cs) => (takeCells g sz (cs.drop off)).map .pure
  | _ => none
def fLoadE (g : Bool) (sz k i off : Nat) : Option AO → Option Eff
  | some (.arr k' es) => if k = k' ∧ i < es.length then (takeCells g sz (((es.getD i []).drop off).map .p)).map .pure else none
  | _ => none
theorem fLoad_ptr {b : Bool} {sz n off : Nat} : fLoad (some b) sz os (.ptr n off) = fLoadP b sz off (os n) := by unfold fLoad fLoadP; rfl
theorem fLoad_eptr {b : Bool} {sz n k i off : Nat} : fLoad (some b) sz os (.eptr n k i off) = fLoadE b sz k i off (os n) := by unfold fLoad fLoadE; rfl
theorem fLoad_ro {b : Bool} {sz : Nat} {cs : List PV} : fLoad (some b) sz os (.p (.ro cs)) = (takeCells b sz (cs.map .p)).map .pure := rfl
theorem fLoadP_cells {b : Bool} {sz off : Nat} {cs : List AV} : fLoadP b sz off (some (.cells cs)) = (takeCells b sz (cs.drop off)).map .pure := rfl
theorem fLoadE_arr {b : Bool} {sz off k k' i : Nat} {es : List (List PV)} : fLoadE b sz k i off (some (.arr k' es)) = if k = k' ∧ i < es.length then (takeCells b sz (((es.getD i []).drop off).map .p)).map .pure else none := rfl
theorem EO_load {t : TypeId} {x : Operand} : EO P r N ⟨dst, .load t x, ty, pos, after, g⟩ s K = EOp r.b N dst s K (fLoad (tyOf P t).agg (tyOf P t).sz s.o (ev s.t x)) := by
  exact EO_eff rfl rfl rfl
def fStore (ag : Option Bool) (sz : Nat) (os : Nat → Option AO) (x : AV) (v : Option (List AV)) : Option Eff :=
  match v, ag with
    | some vs, some _ => if vs.length = sz then
        match x with
        | .ptr n off => match os n with
          | some (.cells cs) => if off + vs.length ≤ cs.length then some (.upd n (.cells (putCells cs off vs))) else none
          | _ => none
        | .eptr n k i off => match os n, pvs? vs with
          | some (.arr k' es), some ps => if k = k' ∧ i < es.length ∧ off + ps.length ≤ k then some (.upd n (.arr k (es.set i (putCells (es.getD i []) off ps)))) else none
          | _, _ => none
        | _ => none
      else none
    | _, _ => none
def fStoreP (n off : Nat) (vs : List AV) : Option AO → Option Eff
  | some (.cells cs) => if off + vs.length ≤ cs.length then some (.upd n (.cells (putCells cs off vs))) else none
  | _ => none
def fStoreE (n k i off : Nat) : Option AO → Option (List PV) → Option Eff
  | some (.arr k' es), some ps => if k = k' ∧ i < es.length ∧ off + ps.length ≤ k then some (.upd n (.arr k (es.set i (putCells (es.getD i []) off ps)))) else none
  | _, _ => none
theorem fStore_ptr {b : Bool} {sz n off : Nat} {vs : List AV} : fStore (some b) sz os (.ptr n off) (some vs) = if vs.length = sz then fStoreP n off vs (os n) else none := by unfold fStore fStoreP; rfl
theorem fStore_eptr {b : Bool} {sz n k i off : Nat} {vs : List AV} : fStore (some b) sz os (.eptr n k i off) (some vs) = if vs.length = sz then fStoreE n k i off (os n) (pvs? vs) else none := by unfold fStore fStoreE; rfl
theorem fStoreP_cells {n off : Nat} {vs cs : List AV} : fStoreP n off vs (some (.cells cs)) = if off + vs.length ≤ cs.length then some (.upd n (.cells (putCells cs off vs))) else none := rfl
theorem fStoreE_arr {n k k' i off : Nat} {es : List (List PV)} {ps : List PV} : fStoreE n k i off (some (.arr k' es)) (some ps) = if k = k' ∧ i < es.length ∧ off + ps.length ≤ k then some (.upd n (.arr k (es.set i (putCells (es.getD i []) off ps)))) else none := rfl
theorem EO_store {t : TypeId} {x v : Operand} : EO P r N ⟨dst, .store t x v, ty, pos, after, g⟩ s K = EOp r.b N dst s K (fStore (tyOf P t).agg (tyOf P t).sz s.o (ev s.t x) (ev s.t v).cs?) := by
  exact EO_eff rfl rfl rfl
def fFA (x : AV) (ft : Nat → Nat) : Option (Nat × Nat) → Option Eff
  | some (o, t) => if ft t = 0 then none else
        match x with
        | .ptr n off => some (.pure (.ptr n (off + o)))
        | .eptr n k i off => some (.pure (.eptr n k i (off + o)))
        | .p (.ro cs) => some (.pure (.p (.ro (cs.drop o))))
        | _ => none
  | none => none
def tkStruct : TK → List (Nat × Nat)
  | .struct fs => fs
  | _ => []
theorem tkStruct_eq {fs : List (Nat × Nat)} : tkStruct (.struct fs) = fs := rfl
theorem fFA_ptr {n off o t : Nat} {ft : Nat → Nat} : fFA (.ptr n off) ft (some (o, t)) = if ft t = 0 then none else some (.pure (.ptr n (off + o))) := rfl
theorem fFA_eptr {n k i off o t : Nat} {ft : Nat → Nat} : fFA (.eptr n k i off) ft (some (o, t)) = if ft t = 0 then none else some (.pure (.eptr n k i (off + o))) := rfl
theorem fFA_ro {cs : List PV} {o t : Nat} {ft : Nat → Nat} : fFA (.p (.ro cs)) ft (some (o, t)) = if ft t = 0 then none else some (.pure (.p (.ro (cs.drop o)))) := rfl
theorem EO_fieldAddr {t : TypeId} {x : Operand} {f : Nat} : EO P r N ⟨dst, .fieldAddr t x f, ty, pos, after, g⟩ s K = EOp r.b N dst s K (fFA (ev s.t x) (fun t => (tyOf P t).sz) ((tkStruct (tyOf P t).k)[f]?)) := by
  refine EO_eff rfl rfl ?_
  cases hk : (tyOf P t).k with
  | struct fs =>
    simp only [eff, hk, tkStruct]
    cases fs[f]? with
    | none => rfl
    | some p => rfl
  | _ => simp [eff, hk, tkStruct, fFA]
def fField (P : Program) (cs : Option (List AV)) : Option (Nat × Nat) → Option Eff
  | some (o, ft) => match cs, (tyOf P ft).agg with
        | some cs, some g => if o + (tyOf P ft).sz ≤ cs.length then (takeCells g (tyOf P ft).sz (cs.drop o)).map .pure else none
        | _, _ => none
  | none => none
def aggOf? : AV → Option (List AV)
  | .agg cs => some cs
  | _ => none
theorem aggOf_agg {cs : List AV} : aggOf? (.agg cs) = some cs := rfl
def fField2 (o sz : Nat) (ag : Option Bool) (cs : List AV) : Option Eff := match ag with
  | some g => if o + sz ≤ cs.length then (takeCells g sz (cs.drop o)).map .pure else none
  | none => none
theorem fField_some {o ft : Nat} {cs : List AV} : fField P (some cs) (some (o, ft)) = fField2 o (tyOf P ft).sz (tyOf P ft).agg cs := by unfold fField fField2; simp only []; cases (tyOf P ft).agg <;> rfl
theorem fField2_some {o sz : Nat} {b : Bool} {cs : List AV} : fField2 o sz (some b) cs = if o + sz ≤ cs.length then (takeCells b sz (cs.drop o)).map .pure else none := rfl
theorem EO_field {t : TypeId} {x : Operand} {f : Nat} : EO P r N ⟨dst, .field t x f, ty, pos, after, g⟩ s K = EOp r.b N dst s K (fField P (aggOf? (ev s.t x)) ((tkStruct (tyOf P t).k)[f]?)) := by
  refine EO_eff rfl rfl ?_
  cases hk : (tyOf P t).k with
  | struct fs =>
    cases hx : ev s.t x with
    | agg cs =>
      simp only [eff, hk, tkStruct, hx, aggOf?]
      cases fs[f]? with
      | none => rfl
      | some p => simp only [fField]; cases (tyOf P p.2).agg <;> rfl
    | _ =>
      simp only [eff, hk, tkStruct, hx, aggOf?]
      cases fs[f]? with
      | none => rfl
      | some p => rfl
  | _ => cases hx : ev s.t x <;> simp [eff, hk, tkStruct, fField, hx]
def fIA (esz : Nat → Nat) (ea : Nat → Bool) (os : Nat → Option AO) (x : AV) : TK → AV → Option Eff
  | .sl e, .p (.val (.int _ n)) => match x with
      | .p (.sl es) => if 0 ≤ n ∧ n < es.length ∧ (es.getD n.toNat []).length = esz e ∧ ea e then some (.pure (.p (.ro (es.getD n.toNat [])))) else none
      | .own m len => match os m with
        | some (.arr k es) => if 0 ≤ n ∧ n < len ∧ len ≤ es.length ∧ k = esz e ∧ ea e then some (.pure (.eptr m k n.toNat 0)) else none
        | _ => none
      | .csl m off k len => if 0 ≤ n ∧ n < len ∧ k = esz e ∧ ea e then some (.pure (.ptr m (off + n.toNat * k))) else none
      | _ => none
  | .arr len e, .p (.val (.int _ n)) => match x with
      | .ptr m off => if 0 ≤ n ∧ n < len ∧ ea e then some (.pure (.ptr m (off + n.toNat * esz e))) else none
      | .p (.ro cs) => if 0 ≤ n ∧ n < len ∧ ea e then some (.pure (.p (.ro (cs.drop (n.toNat * esz e))))) else none
      | _ => none
  | _, _ => none
def fIAo (esz : Nat) (ea : Bool) (m len : Nat) (n : Int) : Option AO → Option Eff
  | some (.arr k es) => if 0 ≤ n ∧ n < len ∧ len ≤ es.length ∧ k = esz ∧ ea then some (.pure (.eptr m k n.toNat 0)) else none
  | _ => none
theorem fIA_sl {esz : Nat → Nat} {ea : Nat → Bool} {e : Nat} {k : IntKind} {n : Int} {es : List (List PV)} : fIA esz ea os (.p (.sl es)) (.sl e) (.p (.val (.int k n))) = if 0 ≤ n ∧ n < es.length ∧ (es.getD n.toNat []).length = esz e ∧ ea e then some (.pure (.p (.ro (es.getD n.toNat [])))) else none := rfl
theorem fIA_own {esz : Nat → Nat} {ea : Nat → Bool} {e m len : Nat} {k : IntKind} {n : Int} : fIA esz ea os (.own m len) (.sl e) (.p (.val (.int k n))) = fIAo (esz e) (ea e) m len n (os m) := by unfold fIA fIAo; rfl
theorem fIAo_arr {esz : Nat} {ea : Bool} {k m len : Nat} {n : Int} {es : List (List PV)} : fIAo esz ea m len n (some (.arr k es)) = if 0 ≤ n ∧ n < len ∧ len ≤ es.length ∧ k = esz ∧ ea then some (.pure (.eptr m k n.toNat 0)) else none := rfl
theorem fIA_csl {esz : Nat → Nat} {ea : Nat → Bool} {e m off k' len : Nat} {k : IntKind} {n : Int} : fIA esz ea os (.csl m off k' len) (.sl e) (.p (.val (.int k n))) = if 0 ≤ n ∧ n < len ∧ k' = esz e ∧ ea e then some (.pure (.ptr m (off + n.toNat * k'))) else none := rfl
theorem fIA_arr {esz : Nat → Nat} {ea : Nat → Bool} {e m off len : Nat} {k : IntKind} {n : Int} : fIA esz ea os (.ptr m off) (.arr len e) (.p (.val (.int k n))) = if 0 ≤ n ∧ n < len ∧ ea e then some (.pure (.ptr m (off + n.toNat * esz e))) else none := rfl
theorem fIA_roarr {esz : Nat → Nat} {ea : Nat → Bool} {e len : Nat} {k : IntKind} {n : Int} {cs : List PV} : fIA esz ea os (.p (.ro cs)) (.arr len e) (.p (.val (.int k n))) = if 0 ≤ n ∧ n < len ∧ ea e then some (.pure (.p (.ro (cs.drop (n.toNat * esz e))))) else none := rfl
theorem EO_indexAddr {t : TypeId} {x i : Operand} : EO P r N ⟨dst, .indexAddr t x i, ty, pos, after, g⟩ s K = EOp r.b N dst s K (fIA (fun e => (tyOf P e).sz) (fun e => (tyOf P e).agg.isSome) s.o (ev s.t x) (tyOf P t).k (ev s.t i)) := by
  refine EO_eff rfl rfl ?_
  unfold eff fIA
  rfl
def fIdx (esz : Nat → Nat) (ea : Nat → Option Bool) (x : AV) : TK → AV → Option Eff
  | .arr len e, .p (.val (.int _ n)) => match x, ea e with
    | .agg cs, some g => if 0 ≤ n ∧ n < len ∧ n.toNat * esz e + esz e ≤ cs.length then (takeCells g (esz e) (cs.drop (n.toNat * esz e))).map .pure else none
    | _, _ => none
  | _, _ => none
noncomputable def fBin (P : Program) (t : TypeId) (op : BinOp) (k : TK) : AV → AV → Option Eff
  | .p (.val (.bool a)), .p (.val (.bool b)) => match k with
      | .bool => (boolV op a b).map fun v => .pure (.p (.val v))
      | _ => none
  | .p (.val a), .p (.val b) => (binV op a b).map fun v => .pure (.p (.val v))
  | .agg cs, .agg ds => aggEq P op t (intsOf cs) (intsOf ds)
  | _, _ => none
theorem fBin_agg {t : TypeId} {op : BinOp} {k : TK} {cs ds : List AV} : fBin P t op k (.agg cs) (.agg ds) = aggEq P op t (intsOf cs) (intsOf ds) := rfl
theorem intsOf_nil : intsOf [] = some [] := rfl
theorem intsOf_cons {n : Int} {r : List AV} : intsOf (.p (.val (.int .i64 n)) :: r) = (intsOf r).map (n :: ·) := rfl
theorem aggEq_eql {t : TypeId} {a b : List Int} (h : IntsEq P t a.length) (hl : a.length = b.length) (ha : a.all inR = true) (hb : b.all inR = true) : aggEq P .eql t (some a) (some b) = some (.pure (bl (decide (a = b)))) := by
  unfold aggEq; simp only []; rw [if_pos ⟨h, hl, ha, hb⟩]
theorem aggEq_neq {t : TypeId} {a b : List Int} (h : IntsEq P t a.length) (hl : a.length = b.length) (ha : a.all inR = true) (hb : b.all inR = true) : aggEq P .neq t (some a) (some b) = some (.pure (bl (!decide (a = b)))) := by
  unfold aggEq; simp only []; rw [if_pos ⟨h, hl, ha, hb⟩]
theorem EO_binOp {op : BinOp} {t u : TypeId} {x y : Operand} : EO P r N ⟨dst, .binOp op t x y u, ty, pos, after, g⟩ s K = EOp r.b N dst s K (fBin P t op (tyOf P t).k (ev s.t x) (ev s.t y)) := by
  exact EO_eff rfl rfl rfl
theorem fBin_int {t : TypeId} {k : TK} {a b : Int} {i : IntKind} : fBin P t .add k (.p (.val (.int i a))) (.p (.val (.int i b))) = some (.pure (.p (.val (.int i (i.wrap (a + b)))))) := by simp [fBin, binV, intOp]
theorem fBin_sub {t : TypeId} {k : TK} {a b : Int} {i : IntKind} : fBin P t .sub k (.p (.val (.int i a))) (.p (.val (.int i b))) = some (.pure (.p (.val (.int i (i.wrap (a - b)))))) := by simp [fBin, binV, intOp]
theorem fBin_mul {t : TypeId} {k : TK} {a b : Int} {i : IntKind} : fBin P t .mul k (.p (.val (.int i a))) (.p (.val (.int i b))) = some (.pure (.p (.val (.int i (i.wrap (a * b)))))) := by simp [fBin, binV, intOp]
theorem fBin_quo {t : TypeId} {k : TK} {a b : Int} {i : IntKind} : fBin P t .quo k (.p (.val (.int i a))) (.p (.val (.int i b))) = if b = 0 then none else some (.pure (.p (.val (.int i (i.wrap (a.tdiv b)))))) := by simp only [fBin, binV, intOp, if_true]; split <;> rfl
theorem fBin_rem {t : TypeId} {k : TK} {a b : Int} {i : IntKind} : fBin P t .rem k (.p (.val (.int i a))) (.p (.val (.int i b))) = if b = 0 then none else some (.pure (.p (.val (.int i (a.tmod b))))) := by simp only [fBin, binV, intOp, if_true]; split <;> rfl
theorem fBin_eql {t : TypeId} {k : TK} {a b : Int} {i : IntKind} : fBin P t .eql k (.p (.val (.int i a))) (.p (.val (.int i b))) = some (.pure (bl (decide (a = b)))) := by simp [fBin, binV, intOp]; rfl
theorem fBin_neq {t : TypeId} {k : TK} {a b : Int} {i : IntKind} : fBin P t .neq k (.p (.val (.int i a))) (.p (.val (.int i b))) = some (.pure (bl (decide (a ≠ b)))) := by simp [fBin, binV, intOp, bne]; rfl
theorem fBin_lss {t : TypeId} {k : TK} {a b : Int} {i : IntKind} : fBin P t .lss k (.p (.val (.int i a))) (.p (.val (.int i b))) = some (.pure (bl (decide (a < b)))) := by simp [fBin, binV, intOp]
theorem fBin_leq {t : TypeId} {k : TK} {a b : Int} {i : IntKind} : fBin P t .leq k (.p (.val (.int i a))) (.p (.val (.int i b))) = some (.pure (bl (decide (a ≤ b)))) := by simp [fBin, binV, intOp]
theorem fBin_gtr {t : TypeId} {k : TK} {a b : Int} {i : IntKind} : fBin P t .gtr k (.p (.val (.int i a))) (.p (.val (.int i b))) = some (.pure (bl (decide (b < a)))) := by simp [fBin, binV, intOp]
theorem fBin_geq {t : TypeId} {k : TK} {a b : Int} {i : IntKind} : fBin P t .geq k (.p (.val (.int i a))) (.p (.val (.int i b))) = some (.pure (bl (decide (b ≤ a)))) := by simp [fBin, binV, intOp]
theorem fBin_shl {t : TypeId} {k : TK} {a b : Int} {i j : IntKind} : fBin P t .shl k (.p (.val (.int i a))) (.p (.val (.int j b))) = if b < 0 then none else some (.pure (.p (.val (.int i (i.wrap (a * 2 ^ (min b.toNat i.bits))))))) := by simp only [fBin, binV, shiftOp]; split <;> rfl
theorem fBin_shr {t : TypeId} {k : TK} {a b : Int} {i j : IntKind} : fBin P t .shr k (.p (.val (.int i a))) (.p (.val (.int j b))) = if b < 0 then none else some (.pure (.p (.val (.int i (a.fdiv (2 ^ (min b.toNat i.bits))))))) := by simp only [fBin, binV, shiftOp]; split <;> rfl
theorem fBin_beq {t : TypeId} {a b : Bool} : fBin P t .eql .bool (bl a) (bl b) = some (.pure (bl (a == b))) := rfl
theorem fBin_bne {t : TypeId} {a b : Bool} : fBin P t .neq .bool (bl a) (bl b) = some (.pure (bl (a != b))) := rfl
def fUn : UnOp → AV → Option Eff
    | .not, .p (.val (.bool b)) => some (.pure (.p (.val (.bool !b))))
    | .neg, .p (.val (.int k n)) => some (.pure (.p (.val (.int k (k.wrap (0 - n))))))
    | _, _ => none
theorem fUn_not {b : Bool} : fUn .not (bl b) = some (.pure (bl !b)) := rfl
theorem fUn_neg {k : IntKind} {n : Int} : fUn .neg (.p (.val (.int k n))) = some (.pure (.p (.val (.int k (k.wrap (0 - n)))))) := rfl
theorem EO_unOp {op : UnOp} {t : TypeId} {x : Operand} : EO P r N ⟨dst, .unOp op t x, ty, pos, after, g⟩ s K = EOp r.b N dst s K (fUn op (ev s.t x)) := by
  exact EO_eff rfl rfl rfl
def fConv (ag : Bool) : TK → AV → Option Eff
    | .int k, .p (.val (.int _ n)) => if ag then some (.pure (.p (.val (.int k (k.wrap n))))) else none
    | _, _ => none
theorem fConv_int {ag : Bool} {k i : IntKind} {n : Int} : fConv ag (.int k) (.p (.val (.int i n))) = if ag then some (.pure (.p (.val (.int k (k.wrap n))))) else none := rfl
theorem EO_convert {u t : TypeId} {x : Operand} : EO P r N ⟨dst, .convert u t x, ty, pos, after, g⟩ s K = EOp r.b N dst s K (fConv (tyOf P u).agg.isSome (tyOf P t).k (ev s.t x)) := by
  exact EO_eff rfl rfl rfl
def fNil : AV → Option Eff
    | .ptr n off => some (.pure (.ptr n off))
    | .eptr n k i off => some (.pure (.eptr n k i off))
    | .p (.ro cs) => some (.pure (.p (.ro cs)))
    | _ => none
theorem fNil_ptr {n off : Nat} : fNil (.ptr n off) = some (.pure (.ptr n off)) := rfl
theorem fNil_eptr {n k i off : Nat} : fNil (.eptr n k i off) = some (.pure (.eptr n k i off)) := rfl
theorem fNil_ro {cs : List PV} : fNil (.p (.ro cs)) = some (.pure (.p (.ro cs))) := rfl
theorem EO_nilCheck {x : Operand} : EO P r N ⟨dst, .nilCheck x, ty, pos, after, g⟩ s K = EOp r.b N dst s K (fNil (ev s.t x)) := by
  exact EO_eff rfl rfl rfl
def fExt (i : Nat) : AV → Option Eff
    | .tup vs => (vs[i]?).map .pure
    | _ => none
theorem fExt_tup {i : Nat} {vs : List AV} : fExt i (.tup vs) = (vs[i]?).map .pure := rfl
theorem EO_extract {x : Operand} {i : Nat} : EO P r N ⟨dst, .extract x i, ty, pos, after, g⟩ s K = EOp r.b N dst s K (fExt i (ev s.t x)) := by
  exact EO_eff rfl rfl rfl
theorem EO_makeFunc {f : Fn} {a b : Array Operand} : EO P r N ⟨dst, .makeFunc f a b, ty, pos, after, g⟩ s K = EOp r.b N dst s K (some (.pure (.fn f (a.toList.map (ev s.t)) (b.toList.map (ev s.t))))) := EO_eff rfl rfl rfl
def fLen : TK → AV → Option Eff
  | .sl _, x => match x with
          | .own _ len => some (.pure (.p (.val (.int .i64 len))))
          | .csl _ _ _ len => some (.pure (.p (.val (.int .i64 len))))
          | .p x => x.list?.map fun es => .pure (.p (.val (.int .i64 es.length)))
          | _ => none
  | .arr n _, _ => some (.pure (.p (.val (.int .i64 n))))
  | _, _ => none
theorem fLen_own {e n len : Nat} : fLen (.sl e) (.own n len) = some (.pure (i64 len)) := rfl
theorem fLen_csl {e n o k len : Nat} : fLen (.sl e) (.csl n o k len) = some (.pure (i64 len)) := rfl
theorem fLen_sl {e : Nat} {es : List (List PV)} : fLen (.sl e) (.p (.sl es)) = some (.pure (i64 es.length)) := rfl
theorem fLen_nil {e : Nat} : fLen (.sl e) (.p (.val (.slice none 0 0))) = some (.pure (i64 0)) := rfl
theorem fLen_arr {n e : Nat} {x : AV} : fLen (.arr n e) x = some (.pure (i64 n)) := rfl
theorem EO_len {t : TypeId} {x : Operand} : EO P r N ⟨dst, .call ⟨.builtin .len, #[x], #[t]⟩, ty, pos, after, g⟩ s K = EOp r.b N dst s K (fLen (tyOf P t).k (ev s.t x)) := by
  refine EO_eff rfl rfl ?_
  show (match (tyOf P t).k with | .sl _ => _ | .arr n _ => _ | _ => _) = _
  cases (tyOf P t).k <;> rfl
def fApp (d : Nat) (ti : TI) (os : Nat → Option AO) (x : AV) : Option (List (List PV)) → Option Eff
  | some xs => if ti.agg.isSome ∧ (xs.all fun c => c.length = ti.sz) ∧ ti.sz = ti.zero.length ∧ 0 < ti.sz ∧ ti.zero.all Value.oneCell' then
            match x with
            | .p (.val (.slice none 0 0)) => if xs.length * ti.bytes ≤ 140737488355328 ∧ xs.length ≤ 9223372036854775807 then some (.new (.arr ti.sz xs) (.own d xs.length)) else none
            | .own n len => match os n with
              | some (.arr k es) => if k = ti.sz ∧ len = es.length ∧ (es.length + xs.length) * ti.bytes ≤ 140737488355328 ∧ es.length + xs.length ≤ 9223372036854775807 then some (.app n (.arr k (es ++ xs)) (.own d (len + xs.length))) else none
              | _ => none
            | _ => none
            else none
  | none => none
def fAppO (d n len sz bytes : Nat) (xs : List (List PV)) : Option AO → Option Eff
  | some (.arr k es) => if k = sz ∧ len = es.length ∧ (es.length + xs.length) * bytes ≤ 140737488355328 ∧ es.length + xs.length ≤ 9223372036854775807 then some (.app n (.arr k (es ++ xs)) (.own d (len + xs.length))) else none
  | _ => none
theorem fApp_nil {d : Nat} {ti : TI} {xs : List (List PV)} : fApp d ti os (.p (.val (.slice none 0 0))) (some xs) = if (ti.agg.isSome ∧ (xs.all fun c => c.length = ti.sz) ∧ ti.sz = ti.zero.length ∧ 0 < ti.sz ∧ ti.zero.all Value.oneCell') ∧ xs.length * ti.bytes ≤ 140737488355328 ∧ xs.length ≤ 9223372036854775807 then some (.new (.arr ti.sz xs) (.own d xs.length)) else none := by
  unfold fApp; simp only []
  split
  · rename_i h
    split
    · rename_i h2; rw [if_pos ⟨h, h2⟩]
    · rename_i h2; rw [if_neg (fun hc => h2 hc.2)]
  · rename_i h; rw [if_neg (fun hc => h hc.1)]
theorem fApp_own {d n len : Nat} {ti : TI} {xs : List (List PV)} : fApp d ti os (.own n len) (some xs) = if (ti.agg.isSome ∧ (xs.all fun c => c.length = ti.sz) ∧ ti.sz = ti.zero.length ∧ 0 < ti.sz ∧ ti.zero.all Value.oneCell') then fAppO d n len ti.sz ti.bytes xs (os n) else none := by
  unfold fApp fAppO; rfl
theorem fAppO_arr {d n len sz bytes k : Nat} {xs es : List (List PV)} : fAppO d n len sz bytes xs (some (.arr k es)) = if k = sz ∧ len = es.length ∧ (es.length + xs.length) * bytes ≤ 140737488355328 ∧ es.length + xs.length ≤ 9223372036854775807 then some (.app n (.arr k (es ++ xs)) (.own d (len + xs.length))) else none := rfl
def slElem : TK → Option Nat
  | .sl e => some e
  | _ => none
theorem slElem_sl {e : Nat} : slElem (.sl e) = some e := rfl
def fAppT (P : Program) (d : Nat) (os : Nat → Option AO) (x : AV) (xs : Option (List (List PV))) : Option Nat → Option Nat → Option Eff
  | some e, some _ => fApp d (tyOf P e) os x xs
  | _, _ => none
theorem fAppT_some {d e e' : Nat} {x : AV} {xs : Option (List (List PV))} : fAppT P d os x xs (some e) (some e') = fApp d (tyOf P e) os x xs := rfl
theorem EO_append {t t' : TypeId} {x y : Operand} : EO P r N ⟨dst, .call ⟨.builtin .append, #[x, y], #[t, t']⟩, ty, pos, after, g⟩ s K = EOp r.b N dst s K (fAppT P (r.b + dst.getD 0) s.o (ev s.t x) (elems? s.o (ev s.t y)) (slElem (tyOf P t).k) (slElem (tyOf P t').k)) := by
  refine EO_eff rfl rfl ?_
  show (match (tyOf P t).k, (tyOf P t').k with | .sl e, .sl _ => _ | _, _ => _) = _
  cases (tyOf P t).k <;> cases (tyOf P t').k <;> simp only [slElem] <;> rfl
theorem el_p {x : PV} : elems? os (.p x) = x.list? := rfl
theorem el_own {n len : Nat} : elems? os (.own n len) = match os n with
    | some (.arr _ es) => if len ≤ es.length then some (es.take len) else none
    | _ => none := rfl
theorem list_sl {es : List (List PV)} : PV.list? (.sl es) = some es := rfl
theorem list_nil : PV.list? (.val (.slice none 0 0)) = some [] := rfl
theorem EO_min {a : Array Operand} {ts : Array TypeId} : EO P r N ⟨dst, .call ⟨.builtin .min, a, ts⟩, ty, pos, after, g⟩ s K = EOp r.b N dst s K ((foldInts (fun x y => if y < x then y else x) (a.toList.map (ev s.t))).map fun v => .pure (.p (.val v))) := EO_eff rfl rfl rfl
theorem EO_max {a : Array Operand} {ts : Array TypeId} : EO P r N ⟨dst, .call ⟨.builtin .max, a, ts⟩, ty, pos, after, g⟩ s K = EOp r.b N dst s K ((foldInts (fun x y => if x < y then y else x) (a.toList.map (ev s.t))).map fun v => .pure (.p (.val v))) := EO_eff rfl rfl rfl
variable {all rest : List Oper} {o : Oper} {op : Op}
def EK (P : Program) (r : RB) (N : Nat) (all rest : List Oper) (K : St → Prop) (s : St) : Prop := EL P r N all rest s K
theorem EK_mk {t : Nat → AV} {o : Nat → Option AO} : EK P r N all rest K ⟨t, o⟩ = EL P r N all rest ⟨t, o⟩ K := rfl
theorem ELg : EL P r N all (⟨dst, op, ty, pos, after, none⟩ :: rest) s K = EO P r N ⟨dst, op, ty, pos, after, none⟩ s (EK P r N all rest K) := rfl
theorem EG_tt : EG P r N all rest o true s K (bl true) = (dstOk N o.dst = true ∧ EO P r N o s (EK P r N all rest K)) := by simp only [EG]; first | (simp; done) | (simp; intro _; rfl)
theorem EG_ff : EG P r N all rest o false s K (bl false) = (dstOk N o.dst = true ∧ EO P r N o s (EK P r N all rest K)) := by simp only [EG]; first | (simp; done) | (simp; intro _; rfl)
theorem EG_tf : EG P r N all rest o true s K (bl false) = (dstOk N o.dst = true ∧ EL P r N all rest (s.put o.dst skipped) K) := by simp only [EG]; first | (simp; done) | (simp; intro _; rfl)
theorem EG_ft : EG P r N all rest o false s K (bl true) = (dstOk N o.dst = true ∧ EL P r N all rest (s.put o.dst skipped) K) := by simp only [EG]; first | (simp; done) | (simp; intro _; rfl)
theorem EG_dec {want : Bool} {p : Prop} [Decidable p] (h1 : p → EG P r N all rest o want s K (bl true)) (h2 : ¬ p → EG P r N all rest o want s K (bl false)) : EG P r N all rest o want s K (bl (decide p)) := by
  by_cases h : p
  · rw [decide_eq_true h]; exact h1 h
  · rw [decide_eq_false h]; exact h2 h
theorem EG_cases {want b : Bool} (h1 : b = true → EG P r N all rest o want s K (bl true)) (h2 : b = false → EG P r N all rest o want s K (bl false)) : EG P r N all rest o want s K (bl b) := by
  cases b
  · exact h2 rfl
  · exact h1 rfl
end
end AM
end
/- The abstract machine, part 20: quiet operations, what they hang on, and that they may change places. -/
section
namespace AM
open Go
def qop : Op → Bool
  | .move _ | .assign _ | .pick .. | .binOp .. | .unOp .. | .convert .. | .extract .. | .makeFunc .. | .field .. | .index .. | .fieldAddr .. | .nilCheck _ | .load .. | .indexAddr .. | .alloc _ | .box .. | .build .. | .buildSlice .. | .makeSlice .. => true
  | .slice _ _ _ _ none => true
  | .call ⟨.builtin .len, _, _⟩ => true
  | .call ⟨.builtin .min, _, _⟩ => true
  | .call ⟨.builtin .max, _, _⟩ => true
  | .call ⟨.value (.func _), _, _⟩ => true
  | _ => false
structure Agree (op : Op) (ρ ρ' : Operand → AV) (os os' : Nat → Option AO) : Prop where
  t : ∀ x ∈ op.operands.toList, ρ' x = ρ x
  o : ∀ x ∈ op.operands.toList, ∀ n, (ρ x).clean n = false → os' n = os n
section
variable {P : Program} {d : Nat} {op : Op} {ρ ρ' : Operand → AV} {os os' : Nat → Option AO}
theorem fLoad_local {ag : Option Bool} {sz : Nat} {x : AV} (h : ∀ n, x.clean n = false → os' n = os n) : fLoad ag sz os' x = fLoad ag sz os x := by
  cases ag with
  | none => rfl
  | some b => cases x with
    | ptr n off => rw [fLoad_ptr, fLoad_ptr, h n (by simp [AV.clean])]
    | eptr n k i off => rw [fLoad_eptr, fLoad_eptr, h n (by simp [AV.clean])]
    | p x => cases x <;> rfl
    | _ => rfl
theorem fIA_local {esz : Nat → Nat} {ea : Nat → Bool} {x y : AV} {k : TK} (h : ∀ n, x.clean n = false → os' n = os n) : fIA esz ea os' x k y = fIA esz ea os x k y := by
  cases k with
  | sl e => cases y with
    | p y => cases y with
      | val v => cases v with
        | int i n => cases x with
          | own m len => rw [fIA_own, fIA_own, h m (by simp [AV.clean])]
          | p x => cases x <;> rfl
          | _ => rfl
        | _ => rfl
      | _ => rfl
    | _ => rfl
  | arr n e => cases y with
    | p y => cases y with
      | val v => cases v with
        | int i n => cases x with
          | p x => cases x <;> rfl
          | _ => rfl
        | _ => rfl
      | _ => rfl
    | _ => rfl
  | _ => rfl
theorem map_congr_mem {l : List Operand} (h : ∀ x ∈ l, ρ' x = ρ x) : l.map ρ' = l.map ρ := List.map_congr_left h
theorem parts_congr {l : List (Nat × Operand)} (h : ∀ p ∈ l, ρ' p.2 = ρ p.2) : l.map (fun p => (p.1, ρ' p.2)) = l.map (fun p => (p.1, ρ p.2)) := List.map_congr_left fun p hp => by rw [h p hp]
theorem eff_local (hq : qop op = true) (hg : goCall op = false) (h : Agree op ρ ρ' os os') : eff P d op ρ' os' = eff P d op ρ os := by
  have ht := h.t
  have ho := h.o
  cases op with
  | move x => show some (Eff.pure (ρ' x)) = some (.pure (ρ x)); rw [ht x (by simp [Op.operands])]
  | assign x => show some (Eff.pure (ρ' x)) = some (.pure (ρ x)); rw [ht x (by simp [Op.operands])]
  | pick c a b => simp only [eff, ht c (by simp [Op.operands]), ht a (by simp [Op.operands]), ht b (by simp [Op.operands])]
  | alloc t => rfl
  | box t x => simp only [eff, ht x (by simp [Op.operands])]
  | load t x =>
    have e : ∀ (ρ : Operand → AV) os, eff P d (.load t x) ρ os = fLoad (tyOf P t).agg (tyOf P t).sz os (ρ x) := fun _ _ => rfl
    rw [e, e, ht x (by simp [Op.operands]), fLoad_local (ho x (by simp [Op.operands]))]
  | fieldAddr t x f => simp only [eff, ht x (by simp [Op.operands])]
  | field t x f => simp only [eff, ht x (by simp [Op.operands])]
  | indexAddr t x i =>
    have e : ∀ (ρ : Operand → AV) os, eff P d (.indexAddr t x i) ρ os = fIA (fun e => (tyOf P e).sz) (fun e => (tyOf P e).agg.isSome) os (ρ x) (tyOf P t).k (ρ i) := fun _ _ => rfl
    rw [e, e, ht x (by simp [Op.operands]), ht i (by simp [Op.operands]), fIA_local (ho x (by simp [Op.operands]))]
  | index t x i => simp only [eff, ht x (by simp [Op.operands]), ht i (by simp [Op.operands])]
  | binOp b t x y u => simp only [eff, ht x (by simp [Op.operands]), ht y (by simp [Op.operands])]
  | unOp b t x => simp only [eff, ht x (by simp [Op.operands])]
  | convert u t x => simp only [eff, ht x (by simp [Op.operands])]
  | nilCheck x => simp only [eff, ht x (by simp [Op.operands])]
  | extract x i => simp only [eff, ht x (by simp [Op.operands])]
  | makeFunc f a b =>
    have h1 : a.toList.map ρ' = a.toList.map ρ := map_congr_mem fun x hx => ht x (by simp [Op.operands]; left; simpa using hx)
    have h2 : b.toList.map ρ' = b.toList.map ρ := map_congr_mem fun x hx => ht x (by simp [Op.operands]; right; simpa using hx)
    simp only [eff, h1, h2]
  | build t parts =>
    have h1 := parts_congr (ρ := ρ) (ρ' := ρ') (l := parts.toList) fun p hp => ht p.2 (by simp [Op.operands]; exact ⟨p.1, by simpa using hp⟩)
    simp only [eff, h1]
  | buildSlice t n parts =>
    have h1 := parts_congr (ρ := ρ) (ρ' := ρ') (l := parts.toList) fun p hp => ht p.2 (by simp [Op.operands]; exact ⟨p.1, by simpa using hp⟩)
    simp only [eff, h1]
  | makeSlice t l c => simp only [eff, ht l (by simp [Op.operands]), ht c (by simp [Op.operands])]
  | slice t x lo hi m =>
    cases m with
    | some m => simp [qop] at hq
    | none =>
      have hb : ∀ (dflt : Nat) (y : Option Operand), (∀ z, y = some z → ρ' z = ρ z) → bound? ρ' dflt y = bound? ρ dflt y := fun dflt y hy => by
        cases y with
        | none => rfl
        | some z => simp only [bound?, hy z rfl]
      have h0 : ρ' x = ρ x := ht x (by simp [Op.operands])
      have h1 : ∀ n, bound? ρ' n lo = bound? ρ n lo := fun n => hb n lo (fun z hz => ht z (by subst hz; simp [Op.operands]))
      have h2 : ∀ n, bound? ρ' n hi = bound? ρ n hi := fun n => hb n hi (fun z hz => ht z (by subst hz; simp [Op.operands]))
      simp only [eff, h0, h1, h2]
  | call c =>
    obtain ⟨callee, args, ts⟩ := c
    have hm : args.toList.map ρ' = args.toList.map ρ := map_congr_mem fun x hx => ht x (by simp [Op.operands, Call.operands]; right; simpa using hx)
    cases callee with
    | value f => simp [goCall] at hg
    | invoke r m => simp [qop] at hq
    | builtin b =>
      cases b <;> first | (simp [qop] at hq; done) | skip
      ·
        simp only [eff]
        cases hts : ts.toList with
        | nil => rfl
        | cons t r => cases r with
          | cons _ _ => rfl
          | nil => cases hargs : args.toList with
            | nil => rfl
            | cons x r => cases r with
              | cons _ _ => rfl
              | nil =>
                have e : ρ' x = ρ x := ht x (by simp [Op.operands, Call.operands]; rw [← Array.mem_toList_iff, hargs]; simp)
                simp only [e]
      · simp only [eff, hm]
      · simp only [eff, hm]
  | _ => simp [qop] at hq
end
end AM
end
/- The abstract machine, part 21: what a quiet operation yields mentions live names alone. -/
section
namespace AM
open Go
theorem ev_lives' {s : St} (h : s.closed) (x : Operand) : (ev s.t x).lives s.o := by
  cases x with
  | tmp i => exact h.1 i
  | const v =>
    simp only [ev]
    cases v <;> first
      | exact AV.lives_p _ _
      | skip
    · unfold evConst
      dsimp only
      split
      · rw [AV.lives_agg]
        intro i x hi
        simp only [List.getElem?_map, Option.map_eq_some_iff] at hi
        obtain ⟨y, hy, rfl⟩ := hi
        exact AV.lives_p _ _
      · exact AV.lives_undef _
    · exact AV.lives_undef _
  | global g => exact AV.lives_undef _
  | func f => intro n hn; simp [ev, AV.clean, AV.clean.cleanL] at hn
def Good (os : Nat → Option AO) (d : Nat) : Eff → Prop
  | .pure x => x.lives os
  | .new a x => a.lives os ∧ ∀ n, x.clean n = false → n = d
  | _ => False
def GoodO (os : Nat → Option AO) (d : Nat) (e : Option Eff) : Prop := ∀ e', e = some e' → Good os d e'
section
variable {P : Program} {d : Nat} {op : Op} {s : St} {os : Nat → Option AO}
theorem goodO_none : GoodO os d none := fun e h => by cases h
theorem goodO_some {e : Eff} (h : Good os d e) : GoodO os d (some e) := fun e' h' => by cases h'; exact h
theorem goodO_ite {c : Prop} [Decidable c] {a b : Option Eff} (h1 : c → GoodO os d a) (h2 : GoodO os d b) : GoodO os d (if c then a else b) := by
  split
  · exact h1 ‹_›
  · exact h2
theorem goodO_p {x : PV} : GoodO os d (some (.pure (.p x))) := goodO_some (AV.lives_p _ _)
theorem goodO_cells {g : Bool} {sz : Nat} {cs : List AV} (h : ∀ (i : Nat) (y : AV), cs[i]? = some y → y.lives os) : GoodO os d ((takeCells g sz cs).map .pure) := by
  intro e he
  obtain ⟨x, hx, rfl⟩ := Option.map_eq_some_iff.1 he
  exact takeCells_lives h hx
theorem goodO_mapV {v : Option Value} : GoodO os d (v.map fun v => .pure (.p (.val v))) := by
  intro e he
  obtain ⟨x, hx, rfl⟩ := Option.map_eq_some_iff.1 he
  exact AV.lives_p _ _
theorem lives_mapP {cs : List PV} : ∀ (i : Nat) (y : AV), (cs.map AV.p)[i]? = some y → y.lives os := by
  intro i y h
  simp only [List.getElem?_map, Option.map_eq_some_iff] at h
  obtain ⟨z, _, rfl⟩ := h
  exact AV.lives_p _ _
theorem lives_drop {cs : List AV} {k : Nat} (h : ∀ (i : Nat) (y : AV), cs[i]? = some y → y.lives os) : ∀ (i : Nat) (y : AV), (cs.drop k)[i]? = some y → y.lives os := by
  intro i y hi
  rw [List.getElem?_drop] at hi
  exact h _ y hi
theorem lives_name {n : Nat} (h : (os n).isSome = true) {x : AV} (hx : ∀ m, x.clean m = false → m = n) : x.lives os := fun m hm => by rw [hx m hm]; exact h
theorem lives_l {l : List Operand} (h : s.closed) : ∀ (i : Nat) (y : AV), (l.map (ev s.t))[i]? = some y → y.lives s.o := by
  intro i y hi
  simp only [List.getElem?_map, Option.map_eq_some_iff] at hi
  obtain ⟨z, _, rfl⟩ := hi
  exact ev_lives' h z
theorem lives_same {x y : AV} (hx : x.lives os) (h : ∀ n, y.clean n = false → x.clean n = false) : y.lives os := fun n hn => hx n (h n hn)
theorem good_load {ag : Option Bool} {sz : Nat} {x : AV} (hc : s.closed) : GoodO s.o d (fLoad ag sz s.o x) := by
  cases ag with
  | none => exact goodO_none
  | some b => cases x with
    | ptr n off =>
      rw [fLoad_ptr]
      cases hn : s.o n with
      | none => exact goodO_none
      | some o => cases o with
        | cells cs => exact goodO_cells (lives_drop (AO.lives_cells.1 (hc.2 n _ hn)))
        | arr k es => exact goodO_none
        | obj X => exact goodO_none
        | loop k tm => exact goodO_none
    | eptr n k i off =>
      rw [fLoad_eptr]
      cases hn : s.o n with
      | none => exact goodO_none
      | some o => cases o with
        | cells cs => exact goodO_none
        | arr k es => exact goodO_ite (fun _ => goodO_cells lives_mapP) goodO_none
        | obj X => exact goodO_none
        | loop k tm => exact goodO_none
    | p x => cases x with
      | ro cs => exact goodO_cells lives_mapP
      | _ => exact goodO_none
    | _ => exact goodO_none
theorem good_FA {x : AV} {ft : Nat → Nat} {o : Option (Nat × Nat)} (hx : x.lives os) : GoodO os d (fFA x ft o) := by
  cases o with
  | none => exact goodO_none
  | some p =>
    obtain ⟨o, t⟩ := p
    unfold fFA
    simp only []
    split
    · exact goodO_none
    · cases x with
      | ptr n off => exact goodO_some (lives_same hx fun m hm => by simpa [AV.clean] using hm)
      | eptr n k i off => exact goodO_some (lives_same hx fun m hm => by simpa [AV.clean] using hm)
      | p x => cases x with
        | ro cs => exact goodO_p
        | _ => exact goodO_none
      | _ => exact goodO_none
theorem good_IA {esz : Nat → Nat} {ea : Nat → Bool} {x y : AV} {k : TK} (hx : x.lives os) : GoodO os d (fIA esz ea os x k y) := by
  cases k with
  | sl e => cases y with
    | p y => cases y with
      | val v => cases v with
        | int i n => cases x with
          | own m len =>
            rw [fIA_own]
            cases hn : os m with
            | none => exact goodO_none
            | some o => cases o with
              | cells cs => exact goodO_none
              | arr k es => exact goodO_ite (fun _ => goodO_some (lives_same hx fun m hm => by simpa [AV.clean] using hm)) goodO_none
              | obj X => exact goodO_none
              | loop k tm => exact goodO_none
          | csl m off k len => exact goodO_ite (fun _ => goodO_some (lives_same hx fun m hm => by simpa [AV.clean] using hm)) goodO_none
          | p x => cases x with
            | sl es => exact goodO_ite (fun _ => goodO_p) goodO_none
            | _ => exact goodO_none
          | _ => exact goodO_none
        | _ => exact goodO_none
      | _ => exact goodO_none
    | _ => exact goodO_none
  | arr n e => cases y with
    | p y => cases y with
      | val v => cases v with
        | int i n => cases x with
          | ptr m off => exact goodO_ite (fun _ => goodO_some (lives_same hx fun m hm => by simpa [AV.clean] using hm)) goodO_none
          | p x => cases x with
            | ro cs => exact goodO_ite (fun _ => goodO_p) goodO_none
            | _ => exact goodO_none
          | _ => exact goodO_none
        | _ => exact goodO_none
      | _ => exact goodO_none
    | _ => exact goodO_none
  | _ => exact goodO_none
theorem lives_pvals' {vs : List Value} : ∀ (i : Nat) (y : AV), (pvals vs)[i]? = some y → y.lives os := lives_pvals os vs
theorem clean_ptr {n d : Nat} : ∀ m, (AV.ptr d n).clean m = false → m = d := fun m hm => by
  simp only [AV.clean, bne_eq_false_iff_eq] at hm; exact hm.symm
theorem clean_own {n d : Nat} : ∀ m, (AV.own d n).clean m = false → m = d := fun m hm => by
  simp only [AV.clean, bne_eq_false_iff_eq] at hm; exact hm.symm
theorem eff_good (hq : qop op = true) (hg : goCall op = false) (hc : s.closed) : GoodO s.o d (eff P d op (ev s.t) s.o) := by
  have hl := ev_lives' hc
  cases op with
  | move x => exact goodO_some (hl x)
  | assign x => exact goodO_some (hl x)
  | pick c a b =>
    simp only [eff]
    split
    · rename_i bb _
      refine goodO_some ?_
      show (if bb = true then _ else _ : AV).lives _
      split
      · exact hl a
      · exact hl b
    · exact goodO_none
  | alloc t => exact goodO_ite (fun _ => goodO_some ⟨AO.lives_cells.2 lives_pvals', clean_ptr⟩) goodO_none
  | box t x =>
    intro e he
    obtain ⟨cs, hcs, rfl⟩ := Option.map_eq_some_iff.1 he
    exact ⟨AO.lives_cells.2 (lives_cs (hl x) hcs), clean_ptr⟩
  | load t x => exact good_load hc
  | fieldAddr t x f =>
    have e : eff P d (.fieldAddr t x f) (ev s.t) s.o = fFA (ev s.t x) (fun t => (tyOf P t).sz) ((tkStruct (tyOf P t).k)[f]?) := by
      cases hk : (tyOf P t).k with
      | struct fs =>
        simp only [eff, hk, tkStruct]
        cases fs[f]? with
        | none => rfl
        | some p => rfl
      | _ => simp [eff, hk, tkStruct, fFA]
    rw [e]
    exact good_FA (hl x)
  | field t x f =>
    simp only [eff]
    split
    · rename_i fs cs h1 h2
      have hx := hl x
      rw [h2, AV.lives_agg] at hx
      split
      · split
        · exact goodO_ite (fun _ => goodO_cells (lives_drop hx)) goodO_none
        · exact goodO_none
      · exact goodO_none
    · exact goodO_none
  | indexAddr t x i => exact good_IA (hl x)
  | index t x i =>
    simp only [eff]
    split
    · rename_i len e cs k n h1 h2 h3
      have hx := hl x
      rw [h2, AV.lives_agg] at hx
      split
      · exact goodO_ite (fun _ => goodO_cells (lives_drop hx)) goodO_none
      · exact goodO_none
    · exact goodO_none
  | binOp b t x y u =>
    simp only [eff]
    split
    · split
      · exact goodO_mapV
      · exact goodO_none
    · exact goodO_mapV
    · unfold aggEq
      split
      · split
        · split
          · exact goodO_p
          · exact goodO_p
          · exact goodO_none
        · exact goodO_none
      · exact goodO_none
    · exact goodO_none
  | unOp b t x =>
    simp only [eff]
    split
    · exact goodO_p
    · exact goodO_p
    · exact goodO_none
  | convert u t x =>
    simp only [eff]
    split
    · exact goodO_ite (fun _ => goodO_p) goodO_none
    · exact goodO_none
  | nilCheck x =>
    simp only [eff]
    split
    · rename_i n off h; rw [← h]; exact goodO_some (hl x)
    · rename_i n k i off h; rw [← h]; exact goodO_some (hl x)
    · exact goodO_p
    · exact goodO_none
  | extract x i =>
    intro e he
    simp only [eff] at he
    split at he
    · rename_i vs hv
      obtain ⟨y, hy, rfl⟩ := Option.map_eq_some_iff.1 he
      have hx := hl x
      rw [hv, AV.lives_tup] at hx
      exact hx _ y hy
    · cases he
  | makeFunc f a b =>
    refine goodO_some ?_
    intro n hn
    simp only [AV.clean, Bool.and_eq_false_iff] at hn
    rcases hn with hn | hn
    · exact AV.lives_cells.1 (lives_l hc) n hn
    · exact AV.lives_cells.1 (lives_l hc) n hn
  | build t parts =>
    have hp : ∀ p ∈ parts.toList.map (fun p => (p.1, ev s.t p.2)), (p.2 : AV).lives s.o := fun p hp => by
      obtain ⟨q, _, rfl⟩ := List.mem_map.1 hp
      exact hl q.2
    simp only [eff]
    refine goodO_ite (fun _ => ?_) goodO_none
    split
    · split
      · exact goodO_none
      · intro e he
        obtain ⟨cs, hcs, rfl⟩ := Option.map_eq_some_iff.1 he
        exact AV.lives_agg.2 (fillParts_lives _ _ _ _ lives_pvals' hp hcs)
    · split
      · exact goodO_none
      · intro e he
        obtain ⟨cs, hcs, rfl⟩ := Option.map_eq_some_iff.1 he
        exact AV.lives_agg.2 (fillParts_lives _ _ _ _ lives_pvals' hp hcs)
    · exact goodO_none
  | buildSlice t n parts =>
    simp only [eff]
    split
    · split
      · exact goodO_ite (fun _ => goodO_some ⟨AO.lives_arr _ _ _, clean_own⟩) goodO_none
      · exact goodO_none
    · exact goodO_none
  | makeSlice t l c =>
    simp only [eff]
    split
    · exact goodO_ite (fun _ => goodO_some ⟨AO.lives_arr _ _ _, clean_own⟩) goodO_none
    · exact goodO_none
  | slice t x lo hi m =>
    cases m with
    | some m => simp [qop] at hq
    | none =>
      simp only [eff]
      split
      · split
        · split
          · exact goodO_ite (fun _ => goodO_p) goodO_none
          · exact goodO_none
        · exact goodO_none
      · split
        · rename_i n off l h h1 _ _
          have hx := hl x
          rw [h1] at hx
          exact goodO_ite (fun _ => goodO_some (lives_same hx fun m hm => by simpa [AV.clean] using hm)) goodO_none
        · exact goodO_none
      · exact goodO_none
  | call c =>
    obtain ⟨callee, args, ts⟩ := c
    cases callee with
    | value f => simp [goCall] at hg
    | invoke r m => simp [qop] at hq
    | builtin b =>
      cases b <;> first | (simp [qop] at hq; done) | skip
      · simp only [eff]
        split
        · split
          · split
            · exact goodO_p
            · exact goodO_p
            · intro e he
              obtain ⟨y, _, rfl⟩ := Option.map_eq_some_iff.1 he
              exact AV.lives_p _ _
            · exact goodO_none
          · exact goodO_p
          · exact goodO_none
        · exact goodO_none
      · exact goodO_mapV
      · exact goodO_mapV
  | _ => simp [qop] at hq
end
end AM
end
/- The abstract machine, part 22: quiet operations change places. -/
section
namespace AM
open Go
theorem viewC_local {os os' : Nat → Option AO} {x : AV} (h : ∀ n, x.clean n = false → os' n = os n) : viewC os' x = viewC os x := by
  cases x with
  | own n len => simp only [viewC, elems?, h n (by simp [AV.clean])]
  | csl n off k len => simp only [viewC, elems?, h n (by simp [AV.clean])]
  | fn f fs cs => cases fs <;> cases cs <;> rfl
  | _ => rfl
theorem viewL_local {os os' : Nat → Option AO} : ∀ {l : List AV}, (∀ n, AV.clean.cleanL n l = false → os' n = os n) → viewL os' l = viewL os l
  | [], _ => rfl
  | x :: r, h => by
    simp only [viewL]
    rw [viewC_local (fun n hn => h n (by simp [AV.clean.cleanL, hn])), viewL_local (l := r) (fun n hn => h n (by simp [AV.clean.cleanL, hn]))]
theorem viewA_local {os os' : Nat → Option AO} {x : AV} (h : ∀ n, x.clean n = false → os' n = os n) : viewA os' x = viewA os x := by
  cases x with
  | agg cs => simp only [viewA]; rw [viewL_local (fun n hn => h n (by simpa [AV.clean] using hn))]
  | _ => exact viewC_local h
theorem viewAs_local {os os' : Nat → Option AO} : ∀ {l : List AV}, (∀ x ∈ l, ∀ n, x.clean n = false → os' n = os n) → viewAs os' l = viewAs os l
  | [], _ => rfl
  | x :: r, h => by
    simp only [viewAs]
    rw [viewA_local (h x (by simp)), viewAs_local (l := r) (fun y hy => h y (by simp [hy]))]
section
variable {P : Program} {r : RB} {nb N : Nat} {all : List Oper}
def ENq (P : Program) (s : St) (k : Nat) (es : List (List PV)) : Op → Prop
  | .call ⟨.value (.func f), as, _⟩ => callable P f = true ∧ ∃ args, viewAs s.o (as.toList.map (ev s.t)) = some args ∧ NCall P f args k es
  | _ => False
theorem EN_iff {nb : Nat} {dst : Option Nat} {s : St} {K : St → Prop} {op : Op} : EN P nb dst s K op ↔ ∃ k es d, ENq P s k es op ∧ dst = some d ∧ s.o (nb + d) = none ∧ K ((s.setO (nb + d) (.arr k es)).put dst (.own (nb + d) es.length)) := by
  unfold EN ENq
  split
  · constructor
    · rintro ⟨h1, args, k, es, d, h2, h3, h4, h5, h6⟩
      exact ⟨k, es, d, ⟨h1, args, h2, h3⟩, h4, h5, h6⟩
    · rintro ⟨k, es, d, ⟨h1, args, h2, h3⟩, h4, h5, h6⟩
      exact ⟨h1, args, k, es, d, h2, h3, h4, h5, h6⟩
  · simp
def QS (P : Program) (nb : Nat) (o : Oper) (s : St) (x : AV) (ob : Option AO) : Prop :=
  if goCall o.op then (ob = none ∧ EC P s (fun y => y = x) o.op) ∨ ∃ k es d, ENq P s k es o.op ∧ o.dst = some d ∧ s.o (nb + d) = none ∧ x = .own (nb + d) es.length ∧ ob = some (.arr k es)
  else (eff P (nb + o.dst.getD 0) o.op (ev s.t) s.o = some (.pure x) ∧ ob = none) ∨ ∃ a d, eff P (nb + o.dst.getD 0) o.op (ev s.t) s.o = some (.new a x) ∧ ob = some a ∧ o.dst = some d ∧ s.o (nb + d) = none
def nextQ (nb : Nat) (dst : Option Nat) (x : AV) (ob : Option AO) (s : St) : St := match ob, dst with
  | some a, some d => (s.setO (nb + d) a).put (some d) x
  | _, _ => s.put dst x
theorem isM_q {op : Op} (h : qop op = true) : isM op = false := by
  cases op <;> first | rfl | (simp [qop] at h)
theorem isDefer_q {op : Op} (h : qop op = true) : isDefer op = false := by
  cases op <;> first | rfl | (simp [qop] at h)
theorem EC_iff {s : St} {K : AV → Prop} {op : Op} : EC P s K op ↔ ∃ x, EC P s (fun y => y = x) op ∧ K x := by
  unfold EC
  split
  · constructor
    · rintro ⟨h1, args, res, h2, h3, h4, h5⟩
      exact ⟨res, ⟨h1, args, res, h2, h3, h4, rfl⟩, h5⟩
    · rintro ⟨x, ⟨h1, args, res, h2, h3, h4, rfl⟩, h5⟩
      exact ⟨h1, args, res, h2, h3, h4, h5⟩
  · simp
theorem EO_quiet {o : Oper} {s : St} {K : St → Prop} (hq : qop o.op = true) (hv : isV r.v o.op = false) (hc : s.closed) : EO P r N o s K ↔ dstOk N o.dst = true ∧ ∃ x ob, QS P r.b o s x ob ∧ K (nextQ r.b o.dst x ob s) := by
  unfold EO QS
  rw [if_neg (by rw [isM_q hq]; simp), if_neg (by rw [hv]; simp)]
  by_cases hg : goCall o.op = true
  · simp only [hg, if_true]
    constructor
    · rintro ⟨h1, h2⟩
      rcases h2 with h2 | h2
      · obtain ⟨x, h3, h4⟩ := EC_iff.1 h2
        exact ⟨h1, x, none, .inl ⟨rfl, h3⟩, h4⟩
      · obtain ⟨k, es, d, h3, h4, h5, h6⟩ := EN_iff.1 h2
        exact ⟨h1, _, _, .inr ⟨k, es, d, h3, h4, h5, rfl, rfl⟩, by rw [h4] at h6 ⊢; exact h6⟩
    · rintro ⟨h1, x, ob, h2, h4⟩
      rcases h2 with ⟨rfl, h3⟩ | ⟨k, es, d, h3, h5, h6, rfl, rfl⟩
      · exact ⟨h1, .inl (EC_iff.2 ⟨x, h3, h4⟩)⟩
      · exact ⟨h1, .inr (EN_iff.2 ⟨k, es, d, h3, h5, h6, by rw [h5] at h4 ⊢; exact h4⟩)⟩
  · have hg' : goCall o.op = false := by simpa using hg
    have hgd := eff_good (P := P) (d := r.b + o.dst.getD 0) hq hg' hc
    simp only [hg', Bool.false_eq_true, if_false, isDefer_q hq, true_and]
    constructor
    · rintro ⟨h1, h2⟩
      refine ⟨h1, ?_⟩
      cases he : eff P (r.b + o.dst.getD 0) o.op (ev s.t) s.o with
      | none => rw [he] at h2; exact h2.elim
      | some e =>
        rw [he] at h2
        have hgd := hgd e he
        cases e with
        | pure x => exact ⟨x, none, .inl ⟨rfl, rfl⟩, h2⟩
        | new a x =>
          cases hd : o.dst with
          | none => rw [hd] at h2; exact h2.elim
          | some d =>
            rw [hd] at h2
            simp only [EA, Eff.apply] at h2
            cases hb : (s.o (r.b + d)).isNone with
            | false => simp [hb] at h2
            | true =>
              simp only [hb, if_true] at h2
              simp only [Option.isNone_iff_eq_none] at hb
              exact ⟨x, some a, .inr ⟨a, d, rfl, rfl, rfl, hb⟩, h2⟩
        | upd n o => exact hgd.elim
        | app n o x => exact hgd.elim
    · rintro ⟨h1, x, ob, h2 | h2, h3⟩
      · obtain ⟨h2, rfl⟩ := h2
        exact ⟨h1, by rw [h2]; exact h3⟩
      · obtain ⟨a, d, h2, rfl, hd, h4⟩ := h2
        refine ⟨h1, ?_⟩
        rw [h2, hd]
        simp only [EA, Eff.apply, h4, Option.isNone_none, if_true]
        rw [hd] at h3
        exact h3
def GS (P : Program) (nb : Nat) (all : List Oper) (o : Oper) (s : St) (x : AV) (ob : Option AO) : Prop := match o.guard with
  | none => QS P nb o s x ob
  | some (j, want) => match guardVal ((dstOf all j).elim .undef s.t) with
    | some g => if g = some want then QS P nb o s x ob else x = skipped ∧ ob = none
    | none => False
theorem E1 {o : Oper} {rest : List Oper} {s : St} {K : St → Prop} (hq : qop o.op = true) (hv : isV r.v o.op = false) (hc : s.closed) : EL P r N all (o :: rest) s K ↔ dstOk N o.dst = true ∧ ∃ x ob, GS P r.b all o s x ob ∧ EL P r N all rest (nextQ r.b o.dst x ob s) K := by
  obtain ⟨dst, op, ty, pos, after, g⟩ := o
  cases g with
  | none => exact EO_quiet (r := r) hq hv hc
  | some g =>
    obtain ⟨j, want⟩ := g
    rw [EL_if]
    simp only [GS]
    generalize (dstOf all j).elim .undef s.t = v
    unfold EG guardVal
    split
    · rename_i b
      simp only []
      rw [EO_quiet hq hv hc]
      have e : ∀ K' : St → Prop, (∃ x ob, (x = skipped ∧ ob = none) ∧ K' (nextQ r.b dst x ob s)) ↔ K' (s.put dst skipped) := fun K' =>
        ⟨fun ⟨x, ob, ⟨h1, h2⟩, h3⟩ => by subst h1 h2; exact h3, fun h => ⟨skipped, none, ⟨rfl, rfl⟩, h⟩⟩
      have e' := e (fun s' => EL P r N all rest s' K)
      cases b <;> cases want <;> simp only [Bool.not_true, Bool.not_false, Bool.true_eq_false, Bool.false_eq_true, Option.some.injEq, if_true, if_false, false_implies, forall_const, true_and, and_true, e'] <;> constructor <;> intro h
      all_goals first | exact h | exact ⟨h.1, h.2.1, h.2⟩ | exact ⟨h.1, h.2.2⟩ | exact ⟨h.1, h.1, h.2⟩
    · constructor
      · rintro ⟨h1, h2⟩
        exact ⟨h1, skipped, none, by simp, h2⟩
      · rintro ⟨h1, x, ob, h2, h3⟩
        simp at h2
        obtain ⟨rfl, rfl⟩ := h2
        exact ⟨h1, h3⟩
    · simp
theorem lives_put {s : St} (hc : s.closed) {dst : Option Nat} {x : AV} (hx : x.lives s.o) : (s.put dst x).closed := by
  cases dst with
  | none => exact hc
  | some d =>
    refine ⟨fun i => ?_, hc.2⟩
    show (upd s.t d x i).lives s.o
    unfold upd
    split
    · exact hx
    · exact hc.1 i
theorem lives_new {s : St} (hc : s.closed) {d : Nat} {k : Option Nat} {a : AO} {x : AV} (ha : a.lives s.o) (hx : ∀ n, x.clean n = false → n = d) : ((s.setO d a).put k x).closed := by
  have hm : ∀ n, (s.o n).isSome = true → ((s.setO d a).o n).isSome = true := fun n hn => by
    show (upd s.o d (some a) n).isSome = true
    unfold upd; split
    · rfl
    · exact hn
  have h1 : (s.setO d a).closed := by
    refine ⟨fun i => AV.lives_mono hm (hc.1 i), fun m o ho => ?_⟩
    have ho : upd s.o d (some a) m = some o := ho
    unfold upd at ho
    split at ho
    · cases ho; exact AO.lives_mono hm ha
    · exact AO.lives_mono hm (hc.2 m o ho)
  exact lives_put h1 (fun n hn => by rw [hx n hn]; show (upd s.o d (some a) d).isSome = true; simp)
theorem GS_closed {o : Oper} {s : St} {x : AV} {ob : Option AO} (hq : qop o.op = true) (hc : s.closed) (h : GS P nb all o s x ob) : (nextQ nb o.dst x ob s).closed := by
  have hQ : QS P nb o s x ob → (nextQ nb o.dst x ob s).closed := by
    clear h
    intro h
    unfold QS at h
    split at h
    · rcases h with ⟨rfl, h⟩ | ⟨k, es, d, h3, h5, h6, rfl, rfl⟩
      · unfold EC at h
        split at h
        · obtain ⟨_, args, res, _, h3, _, rfl⟩ := h
          exact lives_put hc (lives_isP _ h3.1)
        · exact h.elim
      · simp only [nextQ, h5]
        exact lives_new hc (AO.lives_arr _ _ _) (fun n hn => by simpa [AV.clean] using Eq.symm (by simpa [AV.clean] using hn))
    · rename_i hg
      have hgd := eff_good (P := P) (d := nb + o.dst.getD 0) hq (by simpa using hg) hc
      rcases h with ⟨h, rfl⟩ | ⟨a, d, h, rfl, hd, h4⟩
      · exact lives_put hc (hgd _ h)
      · obtain ⟨h5, h6⟩ := hgd _ h
        simp only [nextQ, hd]
        rw [hd] at h6
        exact lives_new hc h5 h6
  unfold GS at h
  split at h
  · exact hQ h
  · split at h
    · split at h
      · exact hQ h
      · obtain ⟨rfl, rfl⟩ := h
        exact lives_put hc (fun n hn => by simp [skipped, AV.clean, AV.clean.cleanL] at hn)
    · exact h.elim
structure Near (nb : Nat) (all : List Oper) (o : Oper) (s s' : St) : Prop where
  t : ∀ t ∈ o.looksAt all.toArray, s'.t t = s.t t
  ob : ∀ t ∈ o.looksAt all.toArray, ∀ n, (s.t t).clean n = false → s'.o n = s.o n
  f : ∀ d, o.dst = some d → s.o (nb + d) = none → s'.o (nb + d) = none
theorem ev_clean {t : Nat → AV} {x : Operand} {n : Nat} (h : (ev t x).clean n = false) : ∃ i, x = .tmp i := by
  cases x with
  | tmp i => exact ⟨i, rfl⟩
  | const v =>
    exfalso
    simp only [ev] at h
    cases v <;> first
      | (simp [evConst, AV.clean] at h; done)
      | skip
    unfold evConst at h
    dsimp only at h
    split at h
    · simp only [AV.clean] at h
      rw [(cleanL_iff n _).2 (fun i x hi => by
        simp only [List.getElem?_map, Option.map_eq_some_iff] at hi
        obtain ⟨y, _, rfl⟩ := hi
        rfl)] at h
      cases h
    · simp [AV.clean] at h
  | global g => simp [ev, AV.clean] at h
  | func f => simp [ev, AV.clean, AV.clean.cleanL] at h
theorem Near.agree {o : Oper} {s s' : St} (h : Near nb all o s s') : Agree o.op (ev s.t) (ev s'.t) s.o s'.o := by
  have hl : ∀ x ∈ o.op.operands.toList, ∀ i, x = .tmp i → i ∈ o.looksAt all.toArray := fun x hx i hi => by
    subst hi
    exact List.mem_append_left _ (List.mem_filterMap.2 ⟨.tmp i, hx, rfl⟩)
  refine ⟨fun x hx => ?_, fun x hx n hn => ?_⟩
  · cases x with
    | tmp i => exact h.t i (hl _ hx i rfl)
    | _ => rfl
  · obtain ⟨i, rfl⟩ := ev_clean hn
    exact h.ob i (hl _ hx i rfl) n hn
theorem EC_local {s s' : St} {K : AV → Prop} {op : Op} (h : Agree op (ev s.t) (ev s'.t) s.o s'.o) (hE : EC P s K op) : EC P s' K op := by
  unfold EC at hE ⊢
  split at hE
  · rename_i f as ts
    obtain ⟨h1, args, res, h2, h3, h4, h5⟩ := hE
    have hmem : ∀ x ∈ as.toList, x ∈ (Op.call ⟨.value (.func f), as, ts⟩).operands.toList := fun x hx => by
      simp [Op.operands, Call.operands]; right; simpa using hx
    have hm : as.toList.map (ev s'.t) = as.toList.map (ev s.t) := List.map_congr_left fun x hx => h.t x (hmem x hx)
    refine ⟨h1, args, res, ?_, h3, by rw [hm]; exact h4, h5⟩
    rw [hm, viewAs_local (fun y hy n hn => ?_)]
    · exact h2
    · obtain ⟨x, hx, rfl⟩ := List.mem_map.1 hy
      exact h.o x (hmem x hx) n hn
  · exact hE.elim
theorem ENq_local {s s' : St} {k : Nat} {es : List (List PV)} {op : Op} (h : Agree op (ev s.t) (ev s'.t) s.o s'.o) (hE : ENq P s k es op) : ENq P s' k es op := by
  unfold ENq at hE ⊢
  split at hE
  · rename_i f as ts
    obtain ⟨h1, args, h2, h3⟩ := hE
    have hmem : ∀ x ∈ as.toList, x ∈ (Op.call ⟨.value (.func f), as, ts⟩).operands.toList := fun x hx => by
      simp [Op.operands, Call.operands]; right; simpa using hx
    have hm : as.toList.map (ev s'.t) = as.toList.map (ev s.t) := List.map_congr_left fun x hx => h.t x (hmem x hx)
    refine ⟨h1, args, ?_, h3⟩
    rw [hm, viewAs_local (fun y hy n hn => ?_)]
    · exact h2
    · obtain ⟨x, hx, rfl⟩ := List.mem_map.1 hy
      exact h.o x (hmem x hx) n hn
  · exact hE.elim
theorem GS_local {o : Oper} {s s' : St} {x : AV} {ob : Option AO} (hq : qop o.op = true) (hn : Near nb all o s s') (h : GS P nb all o s x ob) : GS P nb all o s' x ob := by
  have ha := hn.agree
  have hQ : QS P nb o s x ob → QS P nb o s' x ob := by
    intro h
    unfold QS at h ⊢
    split at h
    · rename_i hg
      rw [if_pos hg]
      rcases h with h | ⟨k, es, d, h3, h5, h6, h7, h8⟩
      · exact .inl ⟨h.1, EC_local ha h.2⟩
      · exact .inr ⟨k, es, d, ENq_local ha h3, h5, hn.f d h5 h6, h7, h8⟩
    · rename_i hg
      rw [if_neg hg]
      have e := eff_local (P := P) (d := nb + o.dst.getD 0) hq (by simpa using hg) ha
      rw [e]
      rcases h with h | ⟨a, d, h1, h2, h3, h4⟩
      · exact .inl h
      · exact .inr ⟨a, d, h1, h2, h3, hn.f d h3 h4⟩
  unfold GS at h ⊢
  split
  · rename_i hg
    rw [hg] at h
    exact hQ h
  · rename_i j want hg
    rw [hg] at h
    simp only [] at h
    have e : (dstOf all j).elim AV.undef s'.t = (dstOf all j).elim .undef s.t := by
      cases hd : dstOf all j with
      | none => rfl
      | some t =>
        refine hn.t t (List.mem_append_right _ ?_)
        rw [hg]
        simp only []
        have : (all.toArray[j]?).bind (·.dst) = some t := by simpa [dstOf] using hd
        rw [this]; simp
    rw [e]
    split
    · rename_i g hgv
      rw [hgv] at h
      simp only [] at h
      split
      · rename_i hw; rw [if_pos hw] at h; exact hQ h
      · rename_i hw; rw [if_neg hw] at h; exact h
    · rename_i hgv
      rw [hgv] at h
      exact h
theorem nextQ_t {dst : Option Nat} {x : AV} {ob : Option AO} {s : St} {i : Nat} (h : dst ≠ some i) : (nextQ nb dst x ob s).t i = s.t i := by
  unfold nextQ
  cases dst with
  | none => cases ob <;> rfl
  | some d =>
    have hne : i ≠ d := fun e => h (by rw [e])
    cases ob with
    | none => exact upd_other hne
    | some a => exact upd_other hne
theorem nextQ_o {dst : Option Nat} {x : AV} {ob : Option AO} {s : St} {n : Nat} (h : (∀ d, dst = some d → nb + d ≠ n) ∨ ob = none) : (nextQ nb dst x ob s).o n = s.o n := by
  unfold nextQ
  cases dst with
  | none => cases ob <;> rfl
  | some d =>
    cases ob with
    | none => rfl
    | some a =>
      rcases h with h | h
      · exact upd_other (fun e => h d rfl e.symm)
      · cases h
theorem GS_new {o : Oper} {s : St} {x : AV} {a : AO} (h : GS P nb all o s x (some a)) : ∃ d, o.dst = some d ∧ s.o (nb + d) = none := by
  have hQ : QS P nb o s x (some a) → ∃ d, o.dst = some d ∧ s.o (nb + d) = none := by
    intro h
    unfold QS at h
    split at h
    · rcases h with h | ⟨k, es, d, _, h3, h4, _, _⟩
      · cases h.1
      · exact ⟨d, h3, h4⟩
    · rcases h with h | ⟨a', d, _, _, h3, h4⟩
      · cases h.2
      · exact ⟨d, h3, h4⟩
  unfold GS at h
  split at h
  · exact hQ h
  · split at h
    · split at h
      · exact hQ h
      · cases h.2
    · exact h.elim
theorem nextQ_comm {d1 d2 : Option Nat} {x1 x2 : AV} {ob1 ob2 : Option AO} {s : St} (h : ∀ d, d1 = some d → d2 ≠ some d) : nextQ nb d1 x1 ob1 (nextQ nb d2 x2 ob2 s) = nextQ nb d2 x2 ob2 (nextQ nb d1 x1 ob1 s) := by
  cases d1 with
  | none => cases d2 <;> cases ob1 <;> cases ob2 <;> rfl
  | some d1 => cases d2 with
    | none => cases ob1 <;> cases ob2 <;> rfl
    | some d2 =>
      have hne : d1 ≠ d2 := fun e => h d1 rfl (by rw [e])
      have hc : ∀ {α : Type} (f : Nat → α) (u v : α), upd (upd f d2 v) d1 u = upd (upd f d1 u) d2 v := fun f u v => by
        funext i
        unfold upd
        by_cases h1 : i = d1
        · subst h1; simp [hne]
        · simp [h1]
      have hc2 : ∀ {α : Type} (f : Nat → α) (u v : α), upd (upd f (nb + d2) v) (nb + d1) u = upd (upd f (nb + d1) u) (nb + d2) v := fun f u v => by
        funext i
        unfold upd
        by_cases h1 : i = nb + d1
        · subst h1; simp [hne]
        · simp [h1]
      cases ob1 <;> cases ob2 <;> simp only [nextQ, St.put, St.setO, hc, hc2]
theorem quiet_swap {o1 o2 : Oper} {s : St} {x1 x2 : AV} {ob1 ob2 : Option AO} (hq1 : qop o1.op = true) (hq2 : qop o2.op = true) (hap : o1.apart all.toArray o2 = true) (hc : s.closed)
    (h1 : GS P nb all o1 s x1 ob1) (h2 : GS P nb all o2 (nextQ nb o1.dst x1 ob1 s) x2 ob2) : GS P nb all o2 s x2 ob2 ∧ GS P nb all o1 (nextQ nb o2.dst x2 ob2 s) x1 ob1 ∧ nextQ nb o1.dst x1 ob1 (nextQ nb o2.dst x2 ob2 s) = nextQ nb o2.dst x2 ob2 (nextQ nb o1.dst x1 ob1 s) := by
  obtain ⟨a1, a2, a3⟩ := Oper.apart_spec hap
  have hdt : ∀ t ∈ o2.looksAt all.toArray, o1.dst ≠ some t := fun t ht e => a1 t e ht
  have hdt2 : ∀ t ∈ o1.looksAt all.toArray, o2.dst ≠ some t := fun t ht e => a3 t e ht
  have hnew : ∀ n, (s.o n).isSome = true → (∀ d, o1.dst = some d → nb + d ≠ n) ∨ ob1 = none := fun n hn => by
    cases ob1 with
    | none => exact .inr rfl
    | some a =>
      obtain ⟨d, hd, hnone⟩ := GS_new h1
      refine .inl fun e he en => ?_
      rw [hd] at he; cases he; subst en; rw [hnone] at hn; cases hn
  have h2' : GS P nb all o2 s x2 ob2 := by
    refine GS_local hq2 ⟨fun t ht => (nextQ_t (hdt t ht)).symm, fun t ht n hn => ?_, fun d hd hnone => ?_⟩ h2
    · rw [nextQ_t (hdt t ht)] at hn
      exact (nextQ_o (hnew n (hc.1 t n hn))).symm
    · cases hs : s.o (nb + d) with
      | none => rfl
      | some o => rw [nextQ_o (hnew (nb + d) (by rw [hs]; rfl)), hs] at hnone; cases hnone
  have hnew2 : ∀ n, (s.o n).isSome = true → (∀ d, o2.dst = some d → nb + d ≠ n) ∨ ob2 = none := fun n hn => by
    cases ob2 with
    | none => exact .inr rfl
    | some a =>
      obtain ⟨d, hd, hnone⟩ := GS_new h2'
      refine .inl fun e he en => ?_
      rw [hd] at he; cases he; subst en; rw [hnone] at hn; cases hn
  refine ⟨h2', GS_local hq1 ⟨fun t ht => nextQ_t (hdt2 t ht), fun t ht n hn => nextQ_o (hnew2 n (hc.1 t n hn)), fun d hd hnone => ?_⟩ h1, nextQ_comm a2⟩
  rw [nextQ_o (.inl (fun e he en => by
    have e1 : e = d := by omega
    subst e1
    exact a2 e hd he))]
  exact hnone
def Steps (P : Program) (r : RB) (N : Nat) (all : List Oper) (o : Oper) : Prop :=
  ∀ l l' s K, s.closed → (∀ s1, s1.closed → EL P r N all l s1 K → EL P r N all l' s1 K) → EL P r N all (o :: l) s K → EL P r N all (o :: l') s K
def Swaps (P : Program) (r : RB) (N : Nat) (all : List Oper) (i j : Oper) : Prop :=
  ∀ l s K, s.closed → EL P r N all (i :: j :: l) s K → EL P r N all (j :: i :: l) s K
theorem steps_quiet {o : Oper} (hq : qop o.op = true) (hv : isV r.v o.op = false) : Steps P r N all o := by
  intro l l' s K hc h hE
  rw [E1 hq hv hc] at hE ⊢
  obtain ⟨h1, x, ob, h2, h3⟩ := hE
  exact ⟨h1, x, ob, h2, h _ (GS_closed hq hc h2) h3⟩
theorem swaps_quiet {i j : Oper} (hi : qop i.op = true) (hj : qop j.op = true) (hiv : isV r.v i.op = false) (hjv : isV r.v j.op = false) (hap : i.apart all.toArray j = true) : Swaps P r N all i j := by
  intro l s K hc hE
  rw [E1 hi hiv hc] at hE
  obtain ⟨h1, x, ob, h2, h3⟩ := hE
  rw [E1 hj hjv (GS_closed hi hc h2)] at h3
  obtain ⟨h4, x', ob', h5, h6⟩ := h3
  obtain ⟨g1, g2, g3⟩ := quiet_swap hi hj hap hc h2 h5
  rw [E1 hj hjv hc]
  refine ⟨h4, x', ob', g1, ?_⟩
  rw [E1 hi hiv (GS_closed hj hc g1)]
  exact ⟨h1, x, ob, g2, by rw [g3]; exact h6⟩
theorem bubble {j : Oper} {post : List Oper} {K : St → Prop} : ∀ {pre : List Oper} {s : St}, s.closed → (∀ i ∈ pre, Steps P r N all i ∧ Swaps P r N all i j) → EL P r N all (pre ++ j :: post) s K → EL P r N all (j :: (pre ++ post)) s K
  | [], _, _, _, h => h
  | i :: pre, s, hc, hp, h => by
    have hi := hp i (by simp)
    exact hi.2 _ s K hc (hi.1 _ _ s K hc (fun s1 hc1 h1 => bubble hc1 (fun k hk => hp k (by simp [hk])) h1) h)
end
end AM
end
/- The abstract machine, part 23: regions that draw their order. -/
section
namespace AM
open Go
section
variable {P : Program} {r : RB} {N : Nat} {ops : List Oper}
theorem el_head {o : Oper} {l : List Oper} {s : St} {K : St → Prop} {i : Nat} {B : Nat} {S : Nat → Prop} {θ : Nat → Loc} {M : Nat → Prop} {w : World} {a : Act} {Q : Exit → Act → World → Prop}
    (hi : ops[i]? = some o) (hs : SRel N B S θ M w s a) (h : EL P r N ops (o :: l) s K) :
    wpOpIn (Wd r.rd) 0 P ops.toArray Q i (fun a' w' => ∃ s1, EL P r N ops l s1 K ∧ Fin r N B S θ M w a s1 a' w') a w := by
  have hi' : ops.toArray[i]? = some o := by simpa using hi
  unfold wpOpIn
  simp only [hi']
  obtain ⟨dst, op, ty, pos, after, g⟩ := o
  cases g with
  | none =>
    have hw : Region.wanted (⟨dst, op, ty, pos, after, none⟩ : Oper) (yielded ops.toArray a.tmps) = true := rfl
    rw [if_pos hw]
    exact EO_sound h B S θ M w a Q hs
  | some g =>
    obtain ⟨j, want⟩ := g
    simp only [EL] at h
    split at h
    · exact h.elim
    · rename_i t ht
      have skip : dstOk N dst = true → EL P r N ops l (s.put dst skipped) K → ∃ s1, EL P r N ops l s1 K ∧ Fin r N B S θ M w a s1 (a.put dst undef) w := fun hd h =>
        ⟨_, h, (Adv.put hs (dstOk_spec hd) (.tup [] #[] rfl (fun i x h => by simp at h)) (fun n hn => by simp [AV.clean, AV.clean.cleanL] at hn)).toM, by cases dst <;> rfl⟩
      split at h
      · rename_i b hb
        obtain ⟨h1, h2, h3⟩ := h
        have hy : yielded ops.toArray a.tmps j = some b := yielded_of ht (g := some b) (by rw [hb]; rfl) hs
        simp only [Region.wanted, hy]
        by_cases e : b = want
        · subst e
          simp only [beq_self_eq_true, if_true]
          exact EO_sound (h2 rfl) B S θ M w a Q hs
        · have : (some b == some want) = false := by simpa using e
          simp only [this, Bool.false_eq_true, if_false]
          exact ⟨fun _ _ => trivial, skip h1 (h3 (by cases b <;> cases want <;> simp_all))⟩
      · rename_i hb
        have hy : yielded ops.toArray a.tmps j = none := yielded_of ht (g := none) (by rw [hb]; rfl) hs
        simp only [Region.wanted, hy]
        have : ((none : Option Bool) == some want) = false := by simp
        simp only [this, Bool.false_eq_true, if_false]
        exact ⟨fun _ _ => trivial, skip h.1 h.2⟩
      · exact h.elim
def remI (n : Nat) (listed : Array Bool) : List Nat := (List.range n).filter fun i => !listed.getD i true
theorem mem_remI {n i : Nat} {listed : Array Bool} : i ∈ remI n listed ↔ i < n ∧ listed.getD i true = false := by simp [remI]
theorem remI_split {n i : Nat} {listed : Array Bool} (hs : listed.size = n) (hi : i ∈ remI n listed) :
    ∃ pre post, remI n listed = pre ++ i :: post ∧ (∀ j ∈ pre, j < i) ∧ remI n (listed.setIfInBounds i true) = pre ++ post := by
  have hsort : (remI n listed).Pairwise (· < ·) := (List.pairwise_lt_range).filter _
  have hin := (mem_remI.1 hi).1
  obtain ⟨pre, post, he⟩ := List.append_of_mem hi
  rw [he, List.pairwise_append] at hsort
  obtain ⟨h1, h2, h3⟩ := hsort
  refine ⟨pre, post, he, fun j hj => h3 j hj i (by simp), ?_⟩
  have e : remI n (listed.setIfInBounds i true) = (remI n listed).filter (fun j => j != i) := by
    unfold remI
    rw [List.filter_filter]
    apply List.filter_congr
    intro j hj
    have hjn : j < n := by simpa using hj
    by_cases hji : j = i
    · subst hji
      simp [Array.getD_eq_getD_getElem?, hs, hjn]
    · simp [Array.getD_eq_getD_getElem?, hji, Ne.symm hji]
  rw [e, he, List.filter_append, List.filter_cons]
  simp only [bne_self_eq_false, Bool.false_eq_true, if_false]
  rw [List.filter_eq_self.2, List.filter_eq_self.2]
  · intro j hj
    have := (List.pairwise_cons.1 h2).1 j hj
    simp; omega
  · intro j hj
    have := h3 j hj i (by simp)
    simp; omega
theorem mem_ready {n i : Nat} {listed : Array Bool} (hn : ops.length = n) : i ∈ Region.ready .any ops.toArray listed ↔ i ∈ remI n listed ∧ ∃ o, ops[i]? = some o ∧ ∀ e ∈ o.after.toList, Region.binds .any e = true → listed.getD e.on false = true := by
  subst hn
  simp only [Region.ready, List.mem_filter, remI]
  constructor
  · rintro ⟨h1, h2⟩
    simp only [List.size_toArray] at h1
    simp only [Bool.and_eq_true] at h2
    refine ⟨⟨h1, h2.1⟩, ?_⟩
    have h3 := h2.2
    cases ho : ops[i]? with
    | none => simp [ho] at h3
    | some o =>
      refine ⟨o, rfl, fun e he hb => ?_⟩
      have : (o.after.all fun e => !Region.binds .any e || listed.getD e.on false) = true := by simpa [ho] using h3
      rw [← Array.all_toList, List.all_eq_true] at this
      have := this e he
      simpa [hb] using this
  · rintro ⟨⟨h1, h2⟩, o, ho, h3⟩
    simp only [List.size_toArray, h1, Bool.and_eq_true, true_and]
    refine ⟨h2, ?_⟩
    have : (o.after.all fun e => !Region.binds .any e || listed.getD e.on false) = true := by
      rw [← Array.all_toList, List.all_eq_true]
      intro e he
      cases hb : Region.binds .any e with
      | false => simp
      | true => simpa using h3 e he hb
    simpa [ho] using this
structure Masks (ops : List Oper) (b : Nat → Nat) : Prop where
  lt : ∀ (i : Nat) (o : Oper), ops[i]? = some o → ∀ e ∈ o.after.toList, Region.binds .any e = true → e.on < i
  why : ∀ (i j : Nat) (o : Oper), ops[i]? = some o → j < i → (b i).testBit j = true → ∃ e ∈ o.after.toList, Region.binds .any e = true ∧ (e.on = j ∨ (b e.on).testBit j = true ∧ j < e.on)
def ClosedL (ops : List Oper) (listed : Array Bool) : Prop := ∀ (k : Nat) (o : Oper), ops[k]? = some o → listed.getD k false = true → ∀ e ∈ o.after.toList, Region.binds .any e = true → listed.getD e.on false = true
theorem masks_listed {b : Nat → Nat} (hb : Masks ops b) {listed : Array Bool} (hc : ClosedL ops listed) {j : Nat} : ∀ (k : Nat) (o : Oper), ops[k]? = some o → (∀ e ∈ o.after.toList, Region.binds .any e = true → listed.getD e.on false = true) → j < k → (b k).testBit j = true → listed.getD j false = true := by
  intro k
  induction k using Nat.strongRecOn with
  | _ k ih =>
    intro o ho hr hjk ht
    obtain ⟨e, he, hbe, h | ⟨h, hj⟩⟩ := hb.why k j o ho hjk ht
    · rw [← h]; exact hr e he hbe
    · have hl := hr e he hbe
      have hlt := hb.lt k o ho e he hbe
      have : e.on < ops.length := Nat.lt_trans hlt (List.getElem?_eq_some_iff.1 ho).1
      obtain ⟨o', ho'⟩ : ∃ o', ops[e.on]? = some o' := ⟨ops[e.on], by simp [this]⟩
      exact ih e.on hlt o' ho' (hc e.on o' ho' hl) hj h
theorem getD_tf {listed : Array Bool} {i : Nat} (h : listed.getD i true = false) : listed.getD i false = false := by
  rw [Array.getD_eq_getD_getElem?] at h ⊢
  cases hx : listed[i]? with
  | none => rfl
  | some x => rw [hx] at h; simpa using h
theorem any_text {b : Nat → Nat} (hb : Masks ops b)
    (hsw : ∀ (i j : Nat) (oi oj : Oper), j < i → ops[i]? = some oi → ops[j]? = some oj → (b i).testBit j = false → Steps P r N ops oj ∧ Swaps P r N ops oj oi)
    {K : St → Prop} {Q : Exit → Act → World → Prop} :
    ∀ (fuel : Nat) (listed : Array Bool) (s : St) (B : Nat) (S : Nat → Prop) (θ : Nat → Loc) (M : Nat → Prop) (w : World) (a : Act), SRel N B S θ M w s a → listed.size = ops.length → ClosedL ops listed → (remI ops.length listed).length ≤ fuel →
      EL P r N ops ((remI ops.length listed).filterMap (ops[·]?)) s K → (∀ s' a' w', K s' → Fin r N B S θ M w a s' a' w' → Q .normal a' w') → wpAnyIn (Wd r.rd) 0 P .any ops.toArray Q fuel listed a w := by
  intro fuel
  have hready : ∀ {listed : Array Bool} {x : Nat}, x ∈ Region.ready .any ops.toArray listed → x ∈ remI ops.length listed := fun h => ((mem_ready rfl).1 h).1
  induction fuel with
  | zero =>
    intro listed s B S θ M w a hs hsz hcl hf hE hQ
    have hnil : remI ops.length listed = [] := List.length_eq_zero_iff.1 (by omega)
    refine ⟨List.eq_nil_iff_forall_not_mem.2 fun x hx => ?_, ?_⟩
    · have := hready hx
      rw [hnil] at this; cases this
    · rw [hnil] at hE
      exact hQ s a w hE ⟨AdvM.refl hs, rfl⟩
  | succ fuel ih =>
    intro listed s B S θ M w a hs hsz hcl hf hE hQ
    refine ⟨fun hr => ?_, fun i hi => ?_⟩
    ·
      have hnil : remI ops.length listed = [] := by
        cases hrem : remI ops.length listed with
        | nil => rfl
        | cons x l =>
          exfalso
          have hx : x ∈ remI ops.length listed := by rw [hrem]; simp
          have hsort : (remI ops.length listed).Pairwise (· < ·) := (List.pairwise_lt_range).filter _
          rw [hrem, List.pairwise_cons] at hsort
          obtain ⟨hxn, hxl⟩ := mem_remI.1 hx
          have : x ∈ Region.ready .any ops.toArray listed := (mem_ready rfl).2 ⟨hx, ops[x], by simp [hxn], fun e he hbe => by
            have hlt := hb.lt x ops[x] (by simp [hxn]) e he hbe
            cases hl : listed.getD e.on false with
            | true => rfl
            | false =>
              exfalso
              have hen : e.on < ops.length := Nat.lt_trans hlt hxn
              have : e.on ∈ remI ops.length listed := mem_remI.2 ⟨hen, by
                rw [Array.getD_eq_getD_getElem?] at hl ⊢
                have hsz' : e.on < listed.size := by omega
                simp only [Array.getElem?_eq_getElem hsz', Option.getD_some] at hl ⊢
                exact hl⟩
              rw [hrem] at this
              rcases List.mem_cons.1 this with h | h
              · omega
              · have := hsort.1 _ h; omega⟩
          rw [hr] at this; cases this
      rw [hnil] at hE
      exact hQ s a w hE ⟨AdvM.refl hs, rfl⟩
    · obtain ⟨hrem, o, ho, hafter⟩ := (mem_ready rfl).1 hi
      obtain ⟨pre, post, he, hpre, hset⟩ := remI_split hsz hrem
      have hpl : ∀ j ∈ pre, listed.getD j true = false := fun j hj => (mem_remI.1 (show j ∈ remI ops.length listed by rw [he]; simp [hj])).2
      rw [he, List.filterMap_append, List.filterMap_cons] at hE
      simp only [ho] at hE
      have hE' := bubble hs.cl (fun oj hoj => by
        obtain ⟨j, hj, hoj⟩ := List.mem_filterMap.1 hoj
        refine hsw i j o oj (hpre j hj) ho hoj ?_
        cases ht : (b i).testBit j with
        | false => rfl
        | true =>
          have := masks_listed hb hcl i o ho hafter (hpre j hj) ht
          rw [getD_tf (hpl j hj)] at this; cases this) hE
      refine wpOpIn_mono ?_ (el_head ho hs hE')
      rintro a' w' ⟨s1, hE1, hF⟩
      obtain ⟨θ', M', hs', hcomp⟩ := hF.comp
      refine ih _ s1 B S θ' M' w' a' hs' (by simpa using hsz) ?_ ?_ ?_ (fun s' a'' w'' hK hF' => hQ s' a'' w'' hK (hcomp _ _ _ hF'))
      · intro k ok hk hl e hek hbe
        have hmono : ∀ m, listed.getD m false = true → (listed.setIfInBounds i true).getD m false = true := fun m hm => by
          rw [Array.getD_eq_getD_getElem?] at hm ⊢
          rw [Array.getElem?_setIfInBounds]
          split
          · split <;> simp_all
          · exact hm
        by_cases hki : k = i
        · subst hki
          rw [ho] at hk; cases hk
          exact hmono _ (hafter e hek hbe)
        · have : listed.getD k false = true := by
            rw [Array.getD_eq_getD_getElem?] at hl ⊢
            rw [Array.getElem?_setIfInBounds, if_neg (Ne.symm hki)] at hl
            exact hl
          exact hmono _ (hcl k ok hk this e hek hbe)
      · rw [hset]
        rw [he] at hf
        simp only [List.length_append, List.length_cons] at hf ⊢
        omega
      · rw [hset, List.filterMap_append]
        exact hE1
theorem remI_start (n : Nat) : remI n (Array.replicate n false) = List.range n := by
  unfold remI
  rw [List.filter_eq_self]
  intro i hi
  have : i < n := by simpa using hi
  simp [Array.getD_eq_getD_getElem?, this]
theorem range_filterMap : ∀ (l : List Oper), (List.range l.length).filterMap (l[·]?) = l
  | [] => rfl
  | x :: r => by
    rw [List.length_cons, List.range_succ_eq_map, List.filterMap_cons]
    simp only [List.getElem?_cons_zero]
    rw [List.filterMap_map]
    have : ((fun i => (x :: r)[i]?) ∘ Nat.succ) = fun i => r[i]? := by funext i; simp
    rw [this, range_filterMap r]
def forceN (n : Nat) (k : Nat → Bool) : Bool := match n with
  | 0 => k 0
  | m + 1 => k (m + 1)
theorem forceN_eq (n : Nat) (k : Nat → Bool) : forceN n k = k n := by cases n <;> rfl
def masksGo : List Oper → List Nat → (List Nat → Bool) → Bool
  | [], acc, k => k acc
  | o :: r, acc, k => forceN (o.after.toList.foldl (fun m e => if Region.binds .any e then m ||| 2 ^ e.on ||| acc.getD e.on 0 else m) 0) fun m => masksGo r (acc ++ [m]) k
theorem masksGo_k : ∀ {l : List Oper} {acc : List Nat} {k : List Nat → Bool}, masksGo l acc k = true → ∃ b, k b = true
  | [], acc, k, h => ⟨acc, h⟩
  | o :: r, acc, k, h => by
    simp only [masksGo, forceN_eq] at h
    exact masksGo_k h
def maskOk (ops : List Oper) (b : Nat → Nat) : Bool := ops.zipIdx.all fun p => (p.1.after.toList.all fun e => !Region.binds .any e || decide (e.on < p.2)) &&
  (List.range p.2).all fun j => !(b p.2).testBit j || p.1.after.toList.any fun e => Region.binds .any e && (e.on == j || ((b e.on).testBit j && decide (j < e.on)))
def commB (v : List Nat) (ops : List Oper) (oj oi : Oper) : Bool := qop oj.op && qop oi.op && !isV v oj.op && !isV v oi.op && oj.apart ops.toArray oi
def pairsOk (v : List Nat) (ops : List Oper) (b : Nat → Nat) : Bool := ops.zipIdx.all fun p => (ops.take p.2).zipIdx.all fun q => (b p.2).testBit q.2 || commB v ops q.1 p.1
def chkAny (v : List Nat) (ops : List Oper) : Bool := masksGo ops [] fun l => maskOk ops (fun i => l.getD i 0) && pairsOk v ops (fun i => l.getD i 0)
theorem maskOk_spec {b : Nat → Nat} (h : maskOk ops b = true) : Masks ops b := by
  unfold maskOk at h
  rw [List.all_eq_true] at h
  have key : ∀ (i : Nat) (o : Oper), ops[i]? = some o → _ := fun i o ho => h (o, i) (List.mem_zipIdx_iff_getElem?.2 ho)
  refine ⟨fun i o ho e he hb => ?_, fun i j o ho hj ht => ?_⟩
  · have := key i o ho
    simp only [Bool.and_eq_true, List.all_eq_true] at this
    have := this.1 e he
    simpa [hb] using this
  · have := key i o ho
    simp only [Bool.and_eq_true, List.all_eq_true] at this
    have := this.2 j (by simpa using hj)
    simp only [ht, Bool.not_true, Bool.false_or, List.any_eq_true, Bool.and_eq_true, Bool.or_eq_true, beq_iff_eq, decide_eq_true_eq] at this
    obtain ⟨e, he, hb, h⟩ := this
    exact ⟨e, he, hb, h⟩
theorem pairsOk_spec {b : Nat → Nat} (h : pairsOk r.v ops b = true) : ∀ (i j : Nat) (oi oj : Oper), j < i → ops[i]? = some oi → ops[j]? = some oj → (b i).testBit j = false → Steps P r N ops oj ∧ Swaps P r N ops oj oi := by
  intro i j oi oj hj hi hoj ht
  unfold pairsOk at h
  rw [List.all_eq_true] at h
  have h1 := h (oi, i) (List.mem_zipIdx_iff_getElem?.2 hi)
  rw [List.all_eq_true] at h1
  have h2 := h1 (oj, j) (List.mem_zipIdx_iff_getElem?.2 (by rw [List.getElem?_take, if_pos hj]; exact hoj))
  simp only [ht, Bool.false_or, commB, Bool.and_eq_true] at h2
  exact ⟨steps_quiet h2.1.1.1.1 (by simpa using h2.1.1.2), swaps_quiet h2.1.1.1.1 h2.1.1.1.2 (by simpa using h2.1.1.2) (by simpa using h2.1.2) h2.2⟩
theorem SRel.drawn {B : Nat} {S : Nat → Prop} {θ : Nat → Loc} {M : Nat → Prop} {w : World} {a : Act} {st : St} (h : SRel N B S θ M w st a) (k : Nat) : SRel N B S θ M { w with drawn := k } st a :=
  ⟨h.size, fun i => ARel.mono (M' := M) (w := w) (w' := { w with drawn := k }) (fun _ _ _ => rfl) (fun _ _ h => h) (h.tm i),
    fun n o hn => ORel.mono (M := M) (w := w) (w' := { w with drawn := k }) (M' := M) (θ' := θ) (fun _ => rfl) (h.ob n o hn) (fun _ _ hr _ => ARel.mono (M' := M) (w := w) (w' := { w with drawn := k }) (fun _ _ _ => rfl) (fun _ _ h => h) hr) (fun _ _ hp => PRel.mono (M := M) (M' := M) (w := w) (w' := { w with drawn := k }) (fun _ _ _ => rfl) (fun _ _ h => h) hp),
    h.lv, h.inj, h.base, h.mlt, h.cl⟩
theorem awp_any {id : Nat} {st : St} {Q : AEx → St → Prop} (hm : P.follows .mixedOrders = true) (hchk : chkAny r.v ops = true) (h : EL P r N ops ops st (Q .normal)) : AWP P r N (.region id ops.toArray true) st Q := by
  obtain ⟨l, hl⟩ := masksGo_k hchk
  rw [Bool.and_eq_true] at hl
  intro B S θ M w a hs
  refine wpIn_region_any hm ?_
  have hrem : remI ops.length (Array.replicate ops.length false) = List.range ops.length := remI_start _
  refine any_text (maskOk_spec hl.1) (pairsOk_spec hl.2) ops.toArray.size (Array.replicate ops.toArray.size false) st B S θ M _ a (hs.drawn _) (by simp) (fun k o hk hL => ?_) ?_ ?_ (fun s' a' w' hk hF => ⟨.normal, s', rfl, hk, ?_⟩)
  · simp only [Array.getD_eq_getD_getElem?, Array.getElem?_replicate] at hL
    split at hL <;> simp at hL
  · simp only [List.size_toArray]; rw [hrem]; simp
  · simp only [List.size_toArray]; rw [hrem, range_filterMap]; exact h
  · obtain ⟨⟨θ', M', h1, h2, h3, h4⟩, h5⟩ := hF
    exact ⟨⟨θ', M', h1, ⟨h2.size, h2.same, h2.os, h2.tape, h2.output⟩, h3, h4⟩, h5⟩
end
end AM
end
/- The abstract machine, part 27: append and store beside arithmetic. -/
section
namespace AM
open Go
def lapp : Op → Bool
  | .call ⟨.builtin .append, _, _⟩ => true
  | _ => false
def lsto : Op → Bool
  | .store .. => true
  | _ => false
def sil : Op → Bool
  | .move _ | .assign _ | .binOp .. | .unOp .. | .convert .. => true
  | _ => false
section
variable {P : Program} {r : RB} {N : Nat} {all : List Oper} {d : Nat} {op : Op} {ρ ρ' : Operand → AV} {os os' : Nat → Option AO} {s : St}
theorem sil_q (h : sil op = true) : qop op = true ∧ goCall op = false ∧ isDefer op = false ∧ isM op = false := by
  cases op <;> first | (simp [sil] at h; done) | exact ⟨rfl, rfl, rfl, rfl⟩
theorem sil_ind {d' : Nat} (h : sil op = true) : eff P d op ρ os = eff P d' op ρ os' := by
  cases op <;> first | (simp [sil] at h; done) | rfl
theorem aggEq_val {op : BinOp} {t : TypeId} {a b : Option (List Int)} {e : Eff} (h : aggEq P op t a b = some e) : ∃ v, e = .pure (.p v) := by
  unfold aggEq at h
  split at h
  · split at h
    · split at h
      · cases h; exact ⟨_, rfl⟩
      · cases h; exact ⟨_, rfl⟩
      · cases h
    · cases h
  · cases h
theorem sil_pure (h : sil op = true) {e : Eff} (he : eff P d op ρ os = some e) : ∃ y, e = .pure y := by
  cases op <;> simp only [sil, Bool.false_eq_true] at h
  · cases he; exact ⟨_, rfl⟩
  · cases he; exact ⟨_, rfl⟩
  · simp only [eff] at he
    split at he
    · split at he
      · obtain ⟨v, _, rfl⟩ := Option.map_eq_some_iff.1 he; exact ⟨_, rfl⟩
      · cases he
    · obtain ⟨v, _, rfl⟩ := Option.map_eq_some_iff.1 he; exact ⟨_, rfl⟩
    · obtain ⟨v, rfl⟩ := aggEq_val he; exact ⟨_, rfl⟩
    · cases he
  · simp only [eff] at he
    split at he <;> first | (cases he; done) | (cases he; exact ⟨_, rfl⟩)
  · simp only [eff] at he
    split at he
    · split at he
      · cases he; exact ⟨_, rfl⟩
      · cases he
    · cases he
theorem purge_cases (n : Nat) (x : AV) : x.purge n = x ∨ x.purge n = .undef := by
  unfold AV.purge; split
  · exact .inl rfl
  · exact .inr rfl
theorem sil_unpurge (h : sil op = true) {n : Nat} (hρ : ∀ x ∈ op.operands.toList, ρ' x = (ρ x).purge n) {y : AV} (he : eff P d op ρ' os = some (.pure y)) : ∃ y', eff P d op ρ os = some (.pure y') ∧ y = y'.purge n := by
  cases op <;> simp only [sil, Bool.false_eq_true] at h
  · rename_i x
    have he : some (Eff.pure (ρ' x)) = some (.pure y) := he
    cases he
    exact ⟨ρ x, rfl, hρ x (by simp [Op.operands])⟩
  · rename_i x
    have he : some (Eff.pure (ρ' x)) = some (.pure y) := he
    cases he
    exact ⟨ρ x, rfl, hρ x (by simp [Op.operands])⟩
  · rename_i b t x z u
    have e1 := hρ x (by simp [Op.operands])
    have e2 := hρ z (by simp [Op.operands])
    have key : ∀ {y}, eff P d (.binOp b t x z u) ρ os = some (.pure y) → y.purge n = y := fun {y} he => by
      simp only [eff] at he
      split at he
      · split at he
        · obtain ⟨v, _, hv⟩ := Option.map_eq_some_iff.1 he; cases hv; rfl
        · cases he
      · obtain ⟨v, _, hv⟩ := Option.map_eq_some_iff.1 he; cases hv; rfl
      · obtain ⟨v, hv⟩ := aggEq_val he; cases hv; rfl
      · cases he
    rcases purge_cases n (ρ x) with h1 | h1
    · rcases purge_cases n (ρ z) with h2 | h2
      · have : eff P d (.binOp b t x z u) ρ os = some (.pure y) := by
          rw [h1] at e1; rw [h2] at e2
          simp only [eff, e1, e2] at he ⊢
          exact he
        exact ⟨y, this, (key this).symm⟩
      · rw [h2] at e2
        simp only [eff, e2] at he
        split at he <;> simp_all
    · rw [h1] at e1
      simp only [eff, e1] at he
      cases he
  · rename_i b t x
    have e1 := hρ x (by simp [Op.operands])
    have key : ∀ {y}, eff P d (.unOp b t x) ρ os = some (.pure y) → y.purge n = y := fun {y} he => by
      simp only [eff] at he
      split at he <;> first | (cases he; done) | (cases he; rfl)
    rcases purge_cases n (ρ x) with h1 | h1
    · have : eff P d (.unOp b t x) ρ os = some (.pure y) := by
        rw [h1] at e1
        simp only [eff, e1] at he ⊢
        exact he
      exact ⟨y, this, (key this).symm⟩
    · rw [h1] at e1
      simp only [eff, e1] at he
      first
        | (cases he; done)
        | (split at he <;> simp_all)
  · rename_i u t x
    have e1 := hρ x (by simp [Op.operands])
    have key : ∀ {y}, eff P d (.convert u t x) ρ os = some (.pure y) → y.purge n = y := fun {y} he => by
      simp only [eff] at he
      split at he
      · split at he
        · cases he; rfl
        · cases he
      · cases he
    rcases purge_cases n (ρ x) with h1 | h1
    · have : eff P d (.convert u t x) ρ os = some (.pure y) := by
        rw [h1] at e1
        simp only [eff, e1] at he ⊢
        exact he
      exact ⟨y, this, (key this).symm⟩
    · rw [h1] at e1
      simp only [eff, e1] at he
      first
        | (cases he; done)
        | (split at he <;> simp_all)
theorem app_kind (h : lapp op = true) {e : Eff} (he : eff P d op ρ os = some e) : (∃ k es len, e = .new (.arr k es) (.own d len)) ∨ ∃ n k es len, e = .app n (.arr k es) (.own d len) := by
  unfold lapp at h
  split at h
  · rename_i as ts
    simp only [eff] at he
    split at he
    · split at he
      · split at he
        · split at he
          · split at he
            · split at he
              · cases he; exact .inl ⟨_, _, _, rfl⟩
              · cases he
            · split at he
              · split at he
                · cases he; exact .inr ⟨_, _, _, _, rfl⟩
                · cases he
              · cases he
            · cases he
          · cases he
        · cases he
      · cases he
    · cases he
  · cases h
theorem app_local (h : lapp op = true) (hρ : ∀ x ∈ op.operands.toList, ρ' x = ρ x) : eff P d op ρ' os = eff P d op ρ os := by
  unfold lapp at h
  split at h
  · rename_i as ts
    have hm : ∀ x ∈ as.toList, ρ' x = ρ x := fun x hx => hρ x (by simp [Op.operands, Call.operands]; simpa using hx)
    simp only [eff]
    cases hts : ts.toList with
    | nil => rfl
    | cons t r => cases r with
      | nil => rfl
      | cons t' r => cases r with
        | cons _ _ => rfl
        | nil => cases hargs : as.toList with
          | nil => rfl
          | cons x l => cases l with
            | nil => rfl
            | cons y l => cases l with
              | cons _ _ => rfl
              | nil =>
                rw [hargs] at hm
                simp only [hm x (by simp), hm y (by simp)]
  · cases h
theorem sto_local (h : lsto op = true) (hρ : ∀ x ∈ op.operands.toList, ρ' x = ρ x) : eff P d op ρ' os = eff P d op ρ os := by
  cases op <;> simp only [lsto, Bool.false_eq_true] at h
  rename_i t x v
  simp only [eff, hρ x (by simp [Op.operands]), hρ v (by simp [Op.operands])]
theorem putCells_lives {os : Nat → Option AO} : ∀ {vs cs : List AV} {off : Nat}, (∀ (i : Nat) (y : AV), cs[i]? = some y → y.lives os) → (∀ (i : Nat) (y : AV), vs[i]? = some y → y.lives os) → ∀ (i : Nat) (y : AV), (putCells cs off vs)[i]? = some y → y.lives os
  | [], cs, off, h1, _ => h1
  | v :: vs, cs, off, h1, h2 => by
    simp only [putCells]
    refine putCells_lives (fun i y hi => ?_) (fun i y hi => h2 (i + 1) y (by simpa using hi))
    rw [List.getElem?_set] at hi
    split at hi
    · split at hi
      · cases hi; exact h2 0 v rfl
      · cases hi
    · exact h1 i y hi
theorem sto_kind (h : lsto op = true) (hc : s.closed) {e : Eff} (he : eff P d op (ev s.t) s.o = some e) : ∃ n o, e = .upd n o ∧ o.lives s.o ∧ (s.o n).isSome = true := by
  cases op <;> simp only [lsto, Bool.false_eq_true] at h
  rename_i t x v
  simp only [eff] at he
  split at he
  · rename_i vs g hvs hg
    split at he
    · split at he
      · rename_i n off hx
        split at he
        · rename_i cs hn
          split at he
          · cases he
            exact ⟨_, _, rfl, AO.lives_cells.2 (putCells_lives (AO.lives_cells.1 (hc.2 n _ hn)) (lives_cs (ev_lives' hc v) hvs)), by rw [hn]; rfl⟩
          · cases he
        · cases he
      · rename_i n k i off hx
        split at he
        · rename_i k' es ps hn hps
          split at he
          · cases he
            exact ⟨_, _, rfl, AO.lives_arr _ _ _, by rw [hn]; rfl⟩
          · cases he
        · cases he
      · cases he
    · cases he
  · cases he
theorem closed_purge (hc : s.closed) (n : Nat) : (s.purge n).closed := by
  have hkeep : ∀ m, m ≠ n → (s.o m).isSome = true → ((s.purge n).o m).isSome = true := fun m hm hs => by
    rw [St.purge_o_other s hm, Option.isSome_map]; exact hs
  refine ⟨fun i => AV.lives_purge hkeep (hc.1 i), fun m o hm => ?_⟩
  by_cases e : m = n
  · subst e; rw [St.purge_o_same] at hm; cases hm
  · rw [St.purge_o_other s e, Option.map_eq_some_iff] at hm
    obtain ⟨o', h1, rfl⟩ := hm
    exact AO.lives_purge hkeep (hc.2 m o' h1)
theorem closed_setO (hc : s.closed) {n : Nat} {o : AO} (ho : o.lives s.o) : (s.setO n o).closed := by
  have hm : ∀ m, (s.o m).isSome = true → ((s.setO n o).o m).isSome = true := fun m hm => by
    show (upd s.o n (some o) m).isSome = true
    unfold upd; split
    · rfl
    · exact hm
  refine ⟨fun i => AV.lives_mono hm (hc.1 i), fun m o' ho' => ?_⟩
  have ho' : upd s.o n (some o) m = some o' := ho'
  unfold upd at ho'
  split at ho'
  · cases ho'; exact AO.lives_mono hm ho
  · exact AO.lives_mono hm (hc.2 m o' ho')
theorem EL_some {o : Oper} {rest : List Oper} {K : St → Prop} (hg : o.guard = none) (hc : goCall o.op = false) (hd : isDefer o.op = false) (hM : isM o.op = false) :
    EL P r N all (o :: rest) s K ↔ dstOk N o.dst = true ∧ ∃ e s', eff P (r.b + o.dst.getD 0) o.op (ev s.t) s.o = some e ∧ e.apply r.b o.dst s = some s' ∧ EL P r N all rest s' K := by
  simp only [EL, hg, EO, hM, isV_no hc, hc, hd, Bool.false_eq_true, if_false, true_and]
  unfold EA
  constructor
  · rintro ⟨h1, h2⟩
    refine ⟨h1, ?_⟩
    split at h2
    · rename_i e he
      split at h2
      · rename_i s' hs'
        exact ⟨e, s', he, hs', h2⟩
      · exact h2.elim
    · exact h2.elim
  · rintro ⟨h1, e, s', he, hs', h2⟩
    refine ⟨h1, ?_⟩
    simp only [he, hs']
    exact h2
theorem app_flags (h : lapp op = true) : goCall op = false ∧ isDefer op = false ∧ isM op = false := by
  unfold lapp at h
  split at h
  · exact ⟨rfl, rfl, rfl⟩
  · cases h
theorem sto_flags (h : lsto op = true) : goCall op = false ∧ isDefer op = false ∧ isM op = false := by
  cases op <;> first | (simp [lsto] at h; done) | exact ⟨rfl, rfl, rfl⟩
theorem apply_new' {nb : Nat} {dst : Option Nat} {a : AO} {x : AV} {s' : St} (h : (Eff.new a x).apply nb dst s = some s') : ∃ d, dst = some d ∧ s.o (nb + d) = none ∧ s' = (s.setO (nb + d) a).put (some d) x := by
  cases dst with
  | none => simp [Eff.apply] at h
  | some d =>
    simp only [Eff.apply] at h
    split at h
    · rename_i hb
      cases h
      simp only [Option.isNone_iff_eq_none] at hb
      exact ⟨d, rfl, hb, rfl⟩
    · cases h
theorem apply_app' {nb : Nat} {dst : Option Nat} {n : Nat} {a : AO} {x : AV} {s' : St} (h : (Eff.app n a x).apply nb dst s = some s') : ∃ d, dst = some d ∧ (s.purge n).o (nb + d) = none ∧ s' = ((s.purge n).setO (nb + d) a).put (some d) x := by
  cases dst with
  | none => simp [Eff.apply] at h
  | some d =>
    simp only [Eff.apply] at h
    split at h
    · rename_i hb
      cases h
      simp only [Option.isNone_iff_eq_none] at hb
      exact ⟨d, rfl, hb, rfl⟩
    · cases h
theorem steps_app {o : Oper} (h : lapp o.op = true) (hg : o.guard = none) : Steps P r N all o := by
  intro l l' s K hc hl hE
  obtain ⟨f1, f2, f3⟩ := app_flags h
  rw [EL_some hg f1 f2 f3] at hE ⊢
  obtain ⟨h1, e, s', he, hs', h2⟩ := hE
  refine ⟨h1, e, s', he, hs', hl s' ?_ h2⟩
  rcases app_kind h he with ⟨k, es, len, rfl⟩ | ⟨n, k, es, len, rfl⟩
  · obtain ⟨d, hd, _, rfl⟩ := apply_new' hs'
    exact lives_new hc (AO.lives_arr _ _ _) (fun m hm => by rw [hd] at hm; exact clean_own m hm)
  · obtain ⟨d, hd, _, rfl⟩ := apply_app' hs'
    exact lives_new (closed_purge hc n) (AO.lives_arr _ _ _) (fun m hm => by rw [hd] at hm; exact clean_own m hm)
theorem steps_sto {o : Oper} (h : lsto o.op = true) (hg : o.guard = none) : Steps P r N all o := by
  intro l l' s K hc hl hE
  obtain ⟨f1, f2, f3⟩ := sto_flags h
  rw [EL_some hg f1 f2 f3] at hE ⊢
  obtain ⟨h1, e, s', he, hs', h2⟩ := hE
  refine ⟨h1, e, s', he, hs', hl s' ?_ h2⟩
  obtain ⟨n, ob, rfl, h3, _⟩ := sto_kind h hc he
  cases hs'
  exact lives_put (closed_setO hc h3) (AV.lives_undef _)
theorem ev_purge {t : Nat → AV} {n : Nat} (x : Operand) : ev (fun i => (t i).purge n) x = (ev t x).purge n := by
  have key : (∀ i, x ≠ .tmp i) → (ev t x).purge n = ev t x := fun h => by
    unfold AV.purge
    split
    · rfl
    · rename_i hc
      obtain ⟨i, hi⟩ := ev_clean (t := t) (by simpa using hc)
      exact absurd hi (h i)
  cases x with
  | tmp i => rfl
  | const v => exact (key (fun i h => by cases h)).symm
  | global v => exact (key (fun i h => by cases h)).symm
  | func v => exact (key (fun i h => by cases h)).symm
theorem ops_looks {o : Oper} {x : Operand} (hx : x ∈ o.op.operands.toList) {i : Nat} (hi : x = .tmp i) : i ∈ o.looksAt all.toArray := by
  subst hi
  exact List.mem_append_left _ (List.mem_filterMap.2 ⟨.tmp i, hx, rfl⟩)
theorem ev_upd {t : Nat → AV} {d : Nat} {y : AV} {x : Operand} (h : x ≠ .tmp d) : ev (upd t d y) x = ev t x := by
  cases x with
  | tmp i => exact upd_other (fun e => h (by rw [e]))
  | _ => rfl
theorem ev_put {s : St} {dst : Option Nat} {y : AV} {x : Operand} (h : ∀ d, dst = some d → x ≠ .tmp d) : ev (s.put dst y).t x = ev s.t x := by
  cases dst with
  | none => rfl
  | some d => exact ev_upd (h d rfl)
theorem upd_comm {α : Type} {f : Nat → α} {a b : Nat} {x y : α} (h : a ≠ b) : upd (upd f a x) b y = upd (upd f b y) a x := by
  funext i
  unfold upd
  by_cases h1 : i = a
  · subst h1; simp [h]
  · simp [h1]
theorem swaps_app_sil {j i : Oper} (hj : lapp j.op = true) (hjg : j.guard = none) (hi : sil i.op = true) (hig : i.guard = none) (hap : j.apart all.toArray i = true) : Swaps P r N all j i := by
  intro l s K hc hE
  obtain ⟨f1, f2, f3⟩ := app_flags hj
  obtain ⟨q1, q2, q3, q4⟩ := sil_q hi
  obtain ⟨a1, a2, a3⟩ := Oper.apart_spec hap
  rw [EL_some hjg f1 f2 f3] at hE
  obtain ⟨h1, e, s1, he, hs1, h2⟩ := hE
  rw [EL_some hig q2 q3 q4] at h2
  obtain ⟨h3, e2, s2, he2, hs2, h4⟩ := h2
  obtain ⟨y, rfl⟩ := sil_pure hi he2
  have hs2 : s2 = s1.put i.dst y := by cases hs2; rfl
  have hlook : ∀ x ∈ i.op.operands.toList, ∀ d, j.dst = some d → x ≠ .tmp d := fun x hx d hd hxd => a1 d hd (ops_looks hx hxd)
  have hlook2 : ∀ x ∈ j.op.operands.toList, ∀ d, i.dst = some d → x ≠ .tmp d := fun x hx d hd hxd => a3 d hd (ops_looks hx hxd)
  have main : ∃ y', eff P (r.b + i.dst.getD 0) i.op (ev s.t) s.o = some (.pure y') ∧ e.apply r.b j.dst (s.put i.dst y') = some s2 := by
    rcases app_kind hj he with ⟨k, es, len, rfl⟩ | ⟨n, k, es, len, rfl⟩
    · obtain ⟨d, hd, hn, rfl⟩ := apply_new' hs1
      refine ⟨y, ?_, ?_⟩
      · rw [sil_ind (os' := ((s.setO (r.b + d) (.arr k es)).put (some d) (.own (r.b + j.dst.getD 0) len)).o) (d' := r.b + i.dst.getD 0) hi]
        rw [← he2]
        refine (eff_local q1 q2 ⟨fun x hx => ?_, fun x hx n hn => rfl⟩).symm
        exact ev_upd (hlook x hx d hd)
      · rw [hs2, hd]
        have : ((s.put i.dst y).o (r.b + d)).isNone = true := by
          have : (s.put i.dst y).o (r.b + d) = none := by cases i.dst <;> exact hn
          rw [this]; simp
        simp only [Eff.apply, this, if_true, Option.some.injEq]
        cases hid : i.dst with
        | none => rfl
        | some d2 =>
          have hne : d2 ≠ d := fun e => a2 d hd (by rw [hid, e])
          simp only [St.put, St.setO, upd_comm hne]
    · obtain ⟨d, hd, hn, rfl⟩ := apply_app' hs1
      have hρ : ∀ x ∈ i.op.operands.toList, ev (((s.purge n).setO (r.b + d) (.arr k es)).put (some d) (.own (r.b + j.dst.getD 0) len)).t x = (ev s.t x).purge n := fun x hx => by
        rw [show ev (((s.purge n).setO (r.b + d) (.arr k es)).put (some d) (.own (r.b + j.dst.getD 0) len)).t x = ev (s.purge n).t x from ev_upd (hlook x hx d hd)]
        exact ev_purge x
      obtain ⟨y', h5, h6⟩ := sil_unpurge hi hρ he2
      refine ⟨y', by rw [sil_ind hi]; exact h5, ?_⟩
      rw [hs2, hd]
      have hp : ((s.put i.dst y').purge n).o = (s.purge n).o := by cases i.dst <;> rfl
      have : (((s.put i.dst y').purge n).o (r.b + d)).isNone = true := by
        rw [hp, hn]; simp
      simp only [Eff.apply, this, if_true, Option.some.injEq]
      cases hid : i.dst with
      | none => rfl
      | some d2 =>
        have hne : d2 ≠ d := fun e => a2 d hd (by rw [hid, e])
        simp only [St.put, St.setO]
        congr 1
        show upd (fun i => (upd s.t d2 y' i).purge n) d _ = upd (upd (fun i => (s.t i).purge n) d _) d2 y
        rw [upd_comm (Ne.symm hne)]
        congr 1
        funext q
        unfold upd
        by_cases hq : q = d2
        · subst hq; simp [h6]
        · simp [hq]
  obtain ⟨y', h5, h6⟩ := main
  rw [EL_some hig q2 q3 q4]
  refine ⟨h3, .pure y', s.put i.dst y', h5, rfl, ?_⟩
  rw [EL_some hjg f1 f2 f3]
  refine ⟨h1, e, s2, ?_, h6, h4⟩
  rw [show (s.put i.dst y').o = s.o by cases i.dst <;> rfl, ← he]
  exact app_local hj fun x hx => ev_put (hlook2 x hx)
theorem swaps_sil_sto {j i : Oper} (hj : sil j.op = true) (hjg : j.guard = none) (hi : lsto i.op = true) (hig : i.guard = none) (hid : i.dst = none) (hap : j.apart all.toArray i = true) : Swaps P r N all j i := by
  intro l s K hc hE
  obtain ⟨f1, f2, f3⟩ := sto_flags hi
  obtain ⟨q1, q2, q3, q4⟩ := sil_q hj
  obtain ⟨a1, a2, a3⟩ := Oper.apart_spec hap
  rw [EL_some hjg q2 q3 q4] at hE
  obtain ⟨h1, e, s1, he, hs1, h2⟩ := hE
  obtain ⟨y, rfl⟩ := sil_pure hj he
  cases hs1
  rw [EL_some hig f1 f2 f3] at h2
  obtain ⟨h3, e2, s2, he2, hs2, h4⟩ := h2
  have ho : (s.put j.dst y).o = s.o := by cases j.dst <;> rfl
  have he2' : eff P (r.b + i.dst.getD 0) i.op (ev s.t) s.o = some e2 := by
    rw [← he2, ho]
    exact (sto_local hi fun x hx => ev_put (fun d hd hxd => a1 d hd (ops_looks hx hxd))).symm
  obtain ⟨n, ob, rfl, h5, _⟩ := sto_kind hi hc he2'
  rw [EL_some hig f1 f2 f3]
  refine ⟨h3, .upd n ob, s.setO n ob, he2', by rw [hid]; rfl, ?_⟩
  rw [EL_some hjg q2 q3 q4]
  refine ⟨h1, .pure y, (s.setO n ob).put j.dst y, ?_, rfl, ?_⟩
  · rw [← he]; exact sil_ind hj
  · rw [hid] at hs2
    have : s2 = (s.setO n ob).put j.dst y := by cases hs2; cases j.dst <;> rfl
    rw [← this]; exact h4
def commB2 (v : List Nat) (ops : List Oper) (oj oi : Oper) : Bool :=
  (qop oj.op && qop oi.op && !isV v oj.op && !isV v oi.op || lapp oj.op && oj.guard.isNone && sil oi.op && oi.guard.isNone || sil oj.op && oj.guard.isNone && lsto oi.op && oi.guard.isNone && oi.dst.isNone) && oj.apart ops.toArray oi
def pairsOk2 (v : List Nat) (ops : List Oper) (b : Nat → Nat) : Bool := ops.zipIdx.all fun p => (ops.take p.2).zipIdx.all fun q => (b p.2).testBit q.2 || commB2 v ops q.1 p.1
def chkAny2 (v : List Nat) (ops : List Oper) : Bool := masksGo ops [] fun l => maskOk ops (fun i => l.getD i 0) && pairsOk2 v ops (fun i => l.getD i 0)
theorem comm2_spec {ops : List Oper} {oj oi : Oper} (h : commB2 r.v ops oj oi = true) : Steps P r N ops oj ∧ Swaps P r N ops oj oi := by
  simp only [commB2, Bool.and_eq_true, Bool.or_eq_true, Option.isNone_iff_eq_none] at h
  obtain ⟨(h | h) | h, hap⟩ := h
  · exact ⟨steps_quiet h.1.1.1 (by simpa using h.1.2), swaps_quiet h.1.1.1 h.1.1.2 (by simpa using h.1.2) (by simpa using h.2) hap⟩
  · exact ⟨steps_app h.1.1.1 h.1.1.2, swaps_app_sil h.1.1.1 h.1.1.2 h.1.2 h.2 hap⟩
  · exact ⟨steps_quiet (sil_q h.1.1.1.1).1 (isV_no (sil_q h.1.1.1.1).2.1), swaps_sil_sto h.1.1.1.1 h.1.1.1.2 h.1.1.2 h.1.2 h.2 hap⟩
theorem pairsOk2_spec {ops : List Oper} {b : Nat → Nat} (h : pairsOk2 r.v ops b = true) : ∀ (i j : Nat) (oi oj : Oper), j < i → ops[i]? = some oi → ops[j]? = some oj → (b i).testBit j = false → Steps P r N ops oj ∧ Swaps P r N ops oj oi := by
  intro i j oi oj hj hi hoj ht
  unfold pairsOk2 at h
  rw [List.all_eq_true] at h
  have h1 := h (oi, i) (List.mem_zipIdx_iff_getElem?.2 hi)
  rw [List.all_eq_true] at h1
  have h2 := h1 (oj, j) (List.mem_zipIdx_iff_getElem?.2 (by rw [List.getElem?_take, if_pos hj]; exact hoj))
  simp only [ht, Bool.false_or] at h2
  exact comm2_spec h2
theorem awp_any_of {ops : List Oper} {id : Nat} {st : St} {Q : AEx → St → Prop} (hm : P.follows .mixedOrders = true) {b : Nat → Nat} (hb : Masks ops b)
    (hsw : ∀ (i j : Nat) (oi oj : Oper), j < i → ops[i]? = some oi → ops[j]? = some oj → (b i).testBit j = false → Steps P r N ops oj ∧ Swaps P r N ops oj oi) (h : EL P r N ops ops st (Q .normal)) : AWP P r N (.region id ops.toArray true) st Q := by
  intro B S θ M w a hs
  refine wpIn_region_any hm ?_
  have hrem : remI ops.length (Array.replicate ops.length false) = List.range ops.length := remI_start _
  refine any_text hb hsw ops.toArray.size (Array.replicate ops.toArray.size false) st B S θ M _ a (hs.drawn _) (by simp) (fun k o hk hL => ?_) ?_ ?_ (fun s' a' w' hk hF => ⟨.normal, s', rfl, hk, ?_⟩)
  · simp only [Array.getD_eq_getD_getElem?, Array.getElem?_replicate] at hL
    split at hL <;> simp at hL
  · simp only [List.size_toArray]; rw [hrem]; simp
  · simp only [List.size_toArray]; rw [hrem, range_filterMap]; exact h
  · obtain ⟨⟨θ', M', h1, h2, h3, h4⟩, h5⟩ := hF
    exact ⟨⟨θ', M', h1, ⟨h2.size, h2.same, h2.os, h2.tape, h2.output⟩, h3, h4⟩, h5⟩
theorem awp_any2 {ops : List Oper} {id : Nat} {st : St} {Q : AEx → St → Prop} (hm : P.follows .mixedOrders = true) (hchk : chkAny2 r.v ops = true) (h : EL P r N ops ops st (Q .normal)) : AWP P r N (.region id ops.toArray true) st Q := by
  obtain ⟨l, hl⟩ := masksGo_k hchk
  rw [Bool.and_eq_true] at hl
  exact awp_any_of hm (maskOk_spec hl.1) (pairsOk2_spec hl.2) h
end
end AM
end
/- The abstract machine, part 24: states that know less; lists of numbers. -/
section
namespace AM
open Go
def leT (t : Nat → AV) : List (Nat × AV) → Prop
  | [] => True
  | (j, x) :: r => t j = x ∧ leT t r
def leO (o : Nat → Option AO) : List (Nat × AO) → Prop
  | [] => True
  | (j, x) :: r => o j = some x ∧ leO o r
theorem leT_nil (t : Nat → AV) : leT t [] = True := rfl
theorem leT_cons (t : Nat → AV) (j : Nat) (x : AV) (r : List (Nat × AV)) : leT t ((j, x) :: r) = (t j = x ∧ leT t r) := rfl
theorem leO_nil (t : Nat → Option AO) : leO t [] = True := rfl
theorem leO_cons (t : Nat → Option AO) (j : Nat) (x : AO) (r : List (Nat × AO)) : leO t ((j, x) :: r) = (t j = some x ∧ leO t r) := rfl
mutual
def nm (ks : List Nat) : AV → Bool
  | .p _ => true
  | .ptr m _ => ks.contains m
  | .eptr m _ _ _ => ks.contains m
  | .own m _ => ks.contains m
  | .csl m _ _ _ => ks.contains m
  | .fn _ fs cs => nmL ks fs && nmL ks cs
  | .yld m => ks.contains m
  | .mp m => ks.contains m
  | .agg cs => nmL ks cs
  | .tup cs => nmL ks cs
  | .undef => true
def nmL (ks : List Nat) : List AV → Bool
  | [] => true
  | x :: r => nm ks x && nmL ks r
end
def nmO (ks : List Nat) : AO → Bool
  | .cells cs => nmL ks cs
  | .arr _ _ => true
  | .obj _ => true
  | .loop _ tm => nmL ks (tm.map (·.2))
def nmT (ks : List Nat) : List (Nat × AV) → Bool
  | [] => true
  | (_, x) :: r => nm ks x && nmT ks r
def nmOs (ks : List Nat) : List (Nat × AO) → Bool
  | [] => true
  | (_, x) :: r => nmO ks x && nmOs ks r
def keys : List (Nat × AO) → List Nat
  | [] => []
  | (j, _) :: r => j :: keys r
theorem keys_some {m : List (Nat × AO)} {n : Nat} (h : (keys m).contains n = true) : (O m n).isSome = true := by
  induction m with
  | nil => simp [keys] at h
  | cons p r ih =>
    obtain ⟨j, x⟩ := p
    simp only [O]
    split
    · rfl
    · rename_i hne
      refine ih ?_
      simp only [keys, List.contains_cons, Bool.or_eq_true, beq_iff_eq] at h
      rcases h with h | h
      · exact absurd h hne
      · exact h
mutual
theorem nm_lives {m : List (Nat × AO)} : ∀ (x : AV), nm (keys m) x = true → ∀ n, x.clean n = false → (O m n).isSome = true
  | .p _, _, n, hn => by simp [AV.clean] at hn
  | .ptr k _, h, n, hn => by simp only [AV.clean, bne_eq_false_iff_eq] at hn; subst hn; exact keys_some h
  | .eptr k _ _ _, h, n, hn => by simp only [AV.clean, bne_eq_false_iff_eq] at hn; subst hn; exact keys_some h
  | .own k _, h, n, hn => by simp only [AV.clean, bne_eq_false_iff_eq] at hn; subst hn; exact keys_some h
  | .csl k _ _ _, h, n, hn => by simp only [AV.clean, bne_eq_false_iff_eq] at hn; subst hn; exact keys_some h
  | .yld k, h, n, hn => by simp only [AV.clean, bne_eq_false_iff_eq] at hn; subst hn; exact keys_some h
  | .mp k, h, n, hn => by simp only [AV.clean, bne_eq_false_iff_eq] at hn; subst hn; exact keys_some h
  | .fn f fs cs, h, n, hn => by
    simp only [nm, Bool.and_eq_true] at h
    simp only [AV.clean, Bool.and_eq_false_iff] at hn
    rcases hn with hn | hn
    · exact nmL_lives fs h.1 n hn
    · exact nmL_lives cs h.2 n hn
  | .agg cs, h, n, hn => nmL_lives cs h n (by simpa [AV.clean] using hn)
  | .tup cs, h, n, hn => nmL_lives cs h n (by simpa [AV.clean] using hn)
  | .undef, _, n, hn => by simp [AV.clean] at hn
theorem nmL_lives {m : List (Nat × AO)} : ∀ (l : List AV), nmL (keys m) l = true → ∀ n, AV.clean.cleanL n l = false → (O m n).isSome = true
  | [], _, n, hn => by simp [AV.clean.cleanL] at hn
  | x :: r, h, n, hn => by
    simp only [nmL, Bool.and_eq_true] at h
    simp only [AV.clean.cleanL, Bool.and_eq_false_iff] at hn
    rcases hn with hn | hn
    · exact nm_lives x h.1 n hn
    · exact nmL_lives r h.2 n hn
end
theorem closed_mk {l : List (Nat × AV)} {m : List (Nat × AO)} (h1 : nmT (keys m) l = true) (h2 : nmOs (keys m) m = true) : (⟨T l, O m⟩ : St).closed := by
  refine ⟨fun i => ?_, fun k o ho => ?_⟩
  · show (T l i).lives (O m)
    induction l with
    | nil => exact AV.lives_undef _
    | cons p r ih =>
      obtain ⟨j, x⟩ := p
      simp only [nmT, Bool.and_eq_true] at h1
      simp only [T]
      split
      · exact fun n hn => nm_lives x h1.1 n hn
      · exact ih h1.2
  · show o.lives (O m)
    have key : ∀ m' : List (Nat × AO), nmOs (keys m) m' = true → O m' k = some o → nmO (keys m) o = true := by
      intro m'
      induction m' with
      | nil => intro _ h; cases h
      | cons p r ih =>
        obtain ⟨j, x⟩ := p
        intro h h'
        simp only [nmOs, Bool.and_eq_true] at h
        simp only [O] at h'
        split at h'
        · cases h'; exact h.1
        · exact ih h.2 h'
    have := key m h2 ho
    cases o with
    | cells cs => exact fun n hn => nmL_lives cs this n hn
    | arr k es => exact AO.lives_arr _ _ _
    | obj X => exact AO.lives_obj _ _
    | loop k tm => exact fun n hn => nmL_lives _ this n hn
theorem le_mk {l1 : List (Nat × AV)} {m1 : List (Nat × AO)} {s : St} (h1 : leT s.t l1) (h2 : leO s.o m1) (h3 : nmT (keys m1) l1 = true) (h4 : nmOs (keys m1) m1 = true) : St.le ⟨T l1, O m1⟩ s := by
  refine ⟨fun i => ?_, fun n => ?_, closed_mk h3 h4⟩
  · show T l1 i = .undef ∨ T l1 i = s.t i
    clear h3
    induction l1 with
    | nil => exact .inl rfl
    | cons p r ih =>
      obtain ⟨j, x⟩ := p
      simp only [leT] at h1
      simp only [T]
      split
      · rename_i h; subst h; exact .inr h1.1.symm
      · exact ih h1.2
  · show O m1 n = none ∨ O m1 n = s.o n
    clear h3 h4
    induction m1 with
    | nil => exact .inl rfl
    | cons p r ih =>
      obtain ⟨j, x⟩ := p
      simp only [leO] at h2
      simp only [O]
      split
      · rename_i h; subst h; exact .inr h2.1.symm
      · exact ih h2.2
theorem awp_only {P : Program} {r : RB} {N : Nat} {c : Code} {s : St} {Q : AEx → St → Prop} (l1 : List (Nat × AV)) (m1 : List (Nat × AO)) (h1 : leT s.t l1) (h2 : leO s.o m1) (h3 : nmT (keys m1) l1 = true) (h4 : nmOs (keys m1) m1 = true) (h : AWP P r N c ⟨T l1, O m1⟩ Q) : AWP P r N c s Q := .weaken (le_mk h1 h2 h3 h4) h
abbrev iv (n : Int) : PV := .val (.int .i64 n)
abbrev bv (b : Bool) : PV := .val (.bool b)
abbrev isl (l : List Int) : AV := .p (.sl (l.map fun n => [iv n]))
theorem getD_map {α β : Type} (f : α → β) {l : List α} {k : Nat} (d : β) (d' : α) (h : k < l.length) : (l.map f).getD k d = f (l.getD k d') := by
  simp [List.getD, h]
theorem resVars_nil {P : Program} {s : St} : resVars P s [] = some [] := rfl
theorem resVars_cons {P : Program} {s : St} {x : ResultVar} {r : List ResultVar} {y : AV} {ys : List AV} (h1 : resVar P s x = some y) (h2 : resVars P s r = some ys) : resVars P s (x :: r) = some (y :: ys) := by simp [resVars, h1, h2]
theorem resVar_tmp {P : Program} {s : St} {i : Nat} : resVar P s (.tmp i) = viewA s.o (s.t i) := rfl
theorem viewA_p {os : Nat → Option AO} {x : PV} : viewA os (.p x) = some (.p x) := rfl
theorem resOf_one {x : AV} : resOf [x] = x := rfl
theorem resOf_two {x y : AV} {l : List AV} : resOf (x :: y :: l) = .tup (x :: y :: l) := rfl
def ovA (os : Nat → Option AO) : AV → Option AV := viewA os
theorem resVars_1 {P : Program} {s : St} {x : ResultVar} : (resVars P s [x]).map resOf = (resVar P s x) := by
  simp only [resVars]
  cases resVar P s x <;> rfl
end AM
end
/- The abstract machine, part 25: what a walk's printed text uses. -/
section
namespace AM
open Go
section
variable {P : Program} {r : RB} {N : Nat} {s : St} {K : St → Prop} {dst : Option Nat} {ty : TypeId} {pos : String} {after : Array Edge} {g : Option (Nat × Bool)} {all rest : List Oper} {Q : AEx → St → Prop}
def ECk (P : Program) (r : RB) (N : Nat) (f : FuncId) (vargs : Option (List AV)) (args : List AV) (dst : Option Nat) (s : St) (K : St → Prop) : Prop :=
  dstOk N dst = true ∧ ((callable P f = true ∧ ∃ args' res, vargs = some args' ∧ PCall P f args' res ∧ (res.scal = true ∨ args = args' ∨ FCall P f args' res) ∧ K (s.put dst res)) ∨
    (callable P f = true ∧ ∃ args' k es d, vargs = some args' ∧ NCall P f args' k es ∧ dst = some d ∧ s.o (r.b + d) = none ∧ K ((s.setO (r.b + d) (.arr k es)).put dst (.own (r.b + d) es.length))))
def EOc (P : Program) (r : RB) (N : Nat) (f : FuncId) (as : List Operand) (dst : Option Nat) (s : St) (K : St → Prop) : Bool → Bool → Prop
  | false, _ => ECk P r N f (viewAs s.o (as.map (ev s.t))) (as.map (ev s.t)) dst s K
  | true, false => EVk P r N (.fn (.func f) [] []) (as.map (ev s.t)) dst s K
  | true, true => EVq P r N (.fn (.func f) [] []) (as.map (ev s.t)) dst s K
theorem EOc_e {f : FuncId} {as : List Operand} {b : Bool} : EOc P r N f as dst s K false b = ECk P r N f (viewAs s.o (as.map (ev s.t))) (as.map (ev s.t)) dst s K := rfl
theorem EOc_v {f : FuncId} {as : List Operand} : EOc P r N f as dst s K true false = EVk P r N (.fn (.func f) [] []) (as.map (ev s.t)) dst s K := rfl
theorem EOc_q {f : FuncId} {as : List Operand} : EOc P r N f as dst s K true true = EVq P r N (.fn (.func f) [] []) (as.map (ev s.t)) dst s K := rfl
theorem EO_call {f : FuncId} {as : Array Operand} {ts : Array TypeId} : EO P r N ⟨dst, .call ⟨.value (.func f), as, ts⟩, ty, pos, after, g⟩ s K = EOc P r N f as.toList dst s K (r.v.contains f) (r.q.contains f) := by
  have e1 : isV r.v (Op.call ⟨.value (.func f), as, ts⟩) = r.v.contains f := rfl
  have e2 : isQ r.q (.func f) = r.q.contains f := rfl
  unfold EO
  rw [if_neg (by simp [isM])]
  simp only [e1]
  cases hv : r.v.contains f with
  | false => rfl
  | true =>
    simp only [if_true]
    unfold EV
    simp only [e2]
    cases hq : r.q.contains f with
    | false => rfl
    | true => rfl
theorem EO_callv {i : Nat} {as : Array Operand} {ts : Array TypeId} : EO P r N ⟨dst, .call ⟨.value (.tmp i), as, ts⟩, ty, pos, after, g⟩ s K = EVk P r N (s.t i) (as.toList.map (ev s.t)) dst s K := by
  unfold EO EV
  simp [isM, isV, isQ, ev]
theorem EC_intro {f : FuncId} {args args' : List AV} {res : AV} (hf : callable P f = true) (hd : dstOk N dst = true) (hc : PCall P f args' res) (hs : res.scal = true ∨ args = args' ∨ FCall P f args' res) (h : K (s.put dst res)) : ECk P r N f (some args') args dst s K := ⟨hd, .inl ⟨hf, args', res, rfl, hc, hs, h⟩⟩
theorem EF_intro {f : FuncId} {args args' : List AV} {res : AV} (hf : callable P f = true) (hd : dstOk N dst = true) (hc : FCall P f args' res) (h : K (s.put dst res)) : ECk P r N f (some args') args dst s K := ⟨hd, .inl ⟨hf, args', res, rfl, hc.toP, .inr (.inr hc), h⟩⟩
theorem EN_intro {f : FuncId} {args args' : List AV} {k d : Nat} {es : List (List PV)} (hf : callable P f = true) (hd : d < N) (hc : NCall P f args' k es) (hfree : s.o (r.b + d) = none) (h : K ((s.setO (r.b + d) (.arr k es)).put (some d) (.own (r.b + d) es.length))) : ECk P r N f (some args') args (some d) s K := ⟨by simpa [dstOk] using hd, .inr ⟨hf, args', k, es, d, rfl, hc, rfl, hfree, h⟩⟩
theorem EQ_intro {bd : Nat} {fv : AV} {args : List AV} {res : AV} (hd : dstOk N dst = true) (hc : VCall P bd fv args s.o (fun x os' => x = res ∧ os' = s.o)) (hbd : ∀ n, bd ≤ n → s.o n = none) (hb : r.b ≤ bd) (hp : res.isP = true) (h : K (s.put dst res)) : EVq P r N fv args dst s K := ⟨hd, bd, res, hc, hbd, hb, hp, h⟩
theorem contains_lives {ks : List Nat} {os : Nat → Option AO} (h : ∀ n ∈ ks, (os n).isSome = true) {n : Nat} (hn : ks.contains n = true) : (os n).isSome = true := h n (by simpa using hn)
mutual
theorem nm_live {ks : List Nat} {os : Nat → Option AO} (hk : ∀ n ∈ ks, (os n).isSome = true) : ∀ (x : AV), nm ks x = true → ∀ n, x.clean n = false → (os n).isSome = true
  | .p _, _, n, hn => by simp [AV.clean] at hn
  | .ptr k _, h, n, hn => by simp only [AV.clean, bne_eq_false_iff_eq] at hn; subst hn; exact contains_lives hk h
  | .eptr k _ _ _, h, n, hn => by simp only [AV.clean, bne_eq_false_iff_eq] at hn; subst hn; exact contains_lives hk h
  | .own k _, h, n, hn => by simp only [AV.clean, bne_eq_false_iff_eq] at hn; subst hn; exact contains_lives hk h
  | .csl k _ _ _, h, n, hn => by simp only [AV.clean, bne_eq_false_iff_eq] at hn; subst hn; exact contains_lives hk h
  | .yld k, h, n, hn => by simp only [AV.clean, bne_eq_false_iff_eq] at hn; subst hn; exact contains_lives hk h
  | .mp k, h, n, hn => by simp only [AV.clean, bne_eq_false_iff_eq] at hn; subst hn; exact contains_lives hk h
  | .fn f fs cs, h, n, hn => by
    simp only [nm, Bool.and_eq_true] at h
    simp only [AV.clean, Bool.and_eq_false_iff] at hn
    rcases hn with hn | hn
    · exact nmL_live hk fs h.1 n hn
    · exact nmL_live hk cs h.2 n hn
  | .agg cs, h, n, hn => nmL_live hk cs h n (by simpa [AV.clean] using hn)
  | .tup cs, h, n, hn => nmL_live hk cs h n (by simpa [AV.clean] using hn)
  | .undef, _, n, hn => by simp [AV.clean] at hn
theorem nmL_live {ks : List Nat} {os : Nat → Option AO} (hk : ∀ n ∈ ks, (os n).isSome = true) : ∀ (l : List AV), nmL ks l = true → ∀ n, AV.clean.cleanL n l = false → (os n).isSome = true
  | [], _, n, hn => by simp [AV.clean.cleanL] at hn
  | x :: r, h, n, hn => by
    simp only [nmL, Bool.and_eq_true] at h
    simp only [AV.clean.cleanL, Bool.and_eq_false_iff] at hn
    rcases hn with hn | hn
    · exact nm_live hk x h.1 n hn
    · exact nmL_live hk r h.2 n hn
end
def keep (ks : List Nat) : List (Nat × AV) → List (Nat × AV)
  | [] => []
  | (j, x) :: l => (j, if nm ks x = true then x else .undef) :: keep ks l
theorem keep_nil {ks : List Nat} : keep ks [] = [] := rfl
theorem keep_cons {ks : List Nat} {j : Nat} {x : AV} {l : List (Nat × AV)} : keep ks ((j, x) :: l) = (j, if nm ks x = true then x else .undef) :: keep ks l := rfl
theorem keep_spec {ks : List Nat} {os : Nat → Option AO} (hk : ∀ n ∈ ks, (os n).isSome = true) (l : List (Nat × AV)) (i : Nat) : (T (keep ks l) i = .undef ∨ T (keep ks l) i = T l i) ∧ (T (keep ks l) i).lives os := by
  induction l with
  | nil => exact ⟨.inl rfl, AV.lives_undef _⟩
  | cons p r ih =>
    obtain ⟨j, x⟩ := p
    rw [keep_cons, T_cons, T_cons]
    split
    · split
      · rename_i hx; exact ⟨.inr rfl, fun n hn => nm_live hk x hx n hn⟩
      · exact ⟨.inl rfl, AV.lives_undef _⟩
    · exact ih
theorem EV_intro {bd : Nat} {fv : AV} {args : List AV} {l : List (Nat × AV)} {os : Nat → Option AO} {R : AV → (Nat → Option AO) → Prop} (ks : List Nat) (hd : dstOk N dst = true) (hc : VCall P bd fv args os R) (hbd : ∀ n, bd ≤ n → os n = none) (hb : r.b ≤ bd)
    (h : ∀ res os', R res os' → (Hp os').closed → res.lives os' → (∀ n ∈ ks, (os' n).isSome = true) ∧ K (St.put ⟨T (keep ks l), os'⟩ dst res)) : EVk P r N fv args dst ⟨T l, os⟩ K :=
  ⟨hd, _, bd, R, hc, hbd, hb, fun _ h => h.elim, fun res os' h1 h2 h3 => by
    obtain ⟨hk, hK⟩ := h res os' h1 h2 h3
    exact ⟨T (keep ks l), fun i => (keep_spec hk l i).1.imp id (fun e => ⟨e, fun _ hm => hm.elim⟩), fun i => (keep_spec hk l i).2, hK⟩⟩
theorem viewAs_nil {os : Nat → Option AO} : viewAs os [] = some [] := rfl
def oc2 (x : Option AV) (y : Option (List AV)) : Option (List AV) := match x, y with | some a, some b => some (a :: b) | _, _ => none
theorem viewAs_cons {os : Nat → Option AO} {x : AV} {l : List AV} : viewAs os (x :: l) = oc2 (viewA os x) (viewAs os l) := by
  unfold oc2; rfl
theorem viewL_nil {os : Nat → Option AO} : viewL os [] = some [] := rfl
theorem viewL_cons {os : Nat → Option AO} {x : AV} {l : List AV} : viewL os (x :: l) = oc2 (viewC os x) (viewL os l) := by
  unfold oc2; rfl
theorem oc2_some {x : AV} {l : List AV} : oc2 (some x) (some l) = some (x :: l) := rfl
theorem viewA_agg {os : Nat → Option AO} {cs : List AV} : viewA os (.agg cs) = (viewL os cs).map .agg := rfl
theorem viewA_own {os : Nat → Option AO} {n len : Nat} : viewA os (.own n len) = (elems? os (.own n len)).map fun es => .p (.sl es) := rfl
theorem viewC_p {os : Nat → Option AO} {x : PV} : viewC os (.p x) = some (.p x) := rfl
theorem viewC_own {os : Nat → Option AO} {n len : Nat} : viewC os (.own n len) = (elems? os (.own n len)).map fun es => .p (.sl es) := rfl
def elO (len : Nat) : Option AO → Option (List (List PV))
  | some (.arr _ es) => if len ≤ es.length then some (es.take len) else none
  | _ => none
theorem el_own' {os : Nat → Option AO} {n len : Nat} : elems? os (.own n len) = elO len (os n) := by unfold elO; rfl
theorem elO_arr {k len : Nat} {es : List (List PV)} : elO len (some (.arr k es)) = if len ≤ es.length then some (es.take len) else none := rfl
theorem awp_loop_k {α : Type} (I : α → St) (μ : α → Nat) (ok : α → Prop) {c : Code} (x0 : α) (h0 : ok x0) (hle : (I x0).le s)
    (hstep : ∀ x, ok x → ∀ L : St → Prop, (∀ y s', ok y → μ y < μ x → (I y).le s' → L s') → AWP P r N c (I x) (thenQ L Q)) : AWP P r N (.loop c) s Q :=
  awp_loop I μ ok x0 h0 hle fun x hx => hstep x hx _ fun y _ h1 h2 h3 => ⟨y, h1, h2, h3⟩
theorem cond_t {c : Operand} {x y : Code} (hc : ev s.t c = bl true) (h : AWP P r N x s Q) : AWP P r N (.cond c x y) s Q := awp_cond hc (fun _ => h) (fun e => by cases e)
theorem cond_f {c : Operand} {x y : Code} (hc : ev s.t c = bl false) (h : AWP P r N y s Q) : AWP P r N (.cond c x y) s Q := awp_cond hc (fun e => by cases e) (fun _ => h)
theorem cond_d {c : Operand} {x y : Code} {p : Prop} [Decidable p] (hc : ev s.t c = bl (decide p)) (ht : p → AWP P r N x s Q) (hf : ¬ p → AWP P r N y s Q) : AWP P r N (.cond c x y) s Q := awp_cond hc (fun e => ht (of_decide_eq_true e)) (fun e => hf (of_decide_eq_false e))
theorem cond_n {c : Operand} {x y : Code} {p : Prop} [Decidable p] (hc : ev s.t c = bl (!decide p)) (ht : ¬ p → AWP P r N x s Q) (hf : p → AWP P r N y s Q) : AWP P r N (.cond c x y) s Q := awp_cond hc (fun e => ht (of_decide_eq_false (by simpa using e))) (fun e => hf (of_decide_eq_true (by simpa using e)))
end
end AM
namespace AM
open Go
theorem isl_getD {l : List Int} {k : Nat} (h : k < l.length) : (l.map fun n => [iv n]).getD k [] = [iv (l.getD k 0)] := getD_map _ _ _ h
theorem ite_yes {c : Prop} [Decidable c] {α : Type} {a b : α} (h : c) : (if c then a else b) = a := if_pos h
end AM
namespace AM
open Go
theorem fAlloc_mk {d : Nat} {k : TK} {sz b : Nat} {z : List Value} : fAlloc d ⟨k, sz, b, z⟩ = if z.all Value.oneCell' ∧ sz = z.length ∧ 0 < sz ∧ (TI.agg ⟨k, sz, b, z⟩).isSome then some (.new (.cells (pvals z)) (.ptr d 0)) else none := rfl
theorem one_int {k : IntKind} {n : Int} : (Value.int k n).oneCell' = true := rfl
theorem one_bool {b : Bool} : (Value.bool b).oneCell' = true := rfl
theorem one_slice {a : Option Addr} {l c : Nat} : (Value.slice a l c).oneCell' = true := rfl
theorem one_ptr {a : Option Addr} : (Value.pointer a).oneCell' = true := rfl
theorem one_map {a : Option Nat} : (Value.map a).oneCell' = true := rfl
theorem pvals_nil : pvals [] = [] := rfl
theorem pvals_cons {v : Value} {l : List Value} : pvals (v :: l) = .p (.val v) :: pvals l := rfl
theorem putCells_nil {α : Type} {cs : List α} {off : Nat} : putCells cs off [] = cs := rfl
theorem putCells_cons {α : Type} {cs vs : List α} {v : α} {off : Nat} : putCells cs off (v :: vs) = putCells (cs.set off v) (off + 1) vs := rfl
theorem pvs_nil : pvs? [] = some [] := rfl
def oc2P (x : Option PV) (y : Option (List PV)) : Option (List PV) := match x, y with | some a, some b => some (a :: b) | _, _ => none
theorem pvs_cons {x : PV} {l : List AV} : pvs? (.p x :: l) = oc2P (some x) (pvs? l) := by unfold oc2P; rfl
theorem oc2P_some {x : PV} {l : List PV} : oc2P (some x) (some l) = some (x :: l) := rfl
theorem foldInts_cons {f : Int → Int → Int} {k : IntKind} {n : Int} {l : List AV} : foldInts f (.p (.val (.int k n)) :: l) = (foldInts.go f k n l).map fun m => .int k m := rfl
theorem foldGo_nil {f : Int → Int → Int} {k : IntKind} {n : Int} : foldInts.go f k n [] = some n := rfl
theorem foldGo_cons {f : Int → Int → Int} {k : IntKind} {n m : Int} {l : List AV} : foldInts.go f k n (.p (.val (.int k m)) :: l) = foldInts.go f k (f n m) l := by simp [foldInts.go]
end AM
namespace AM
open Go
section
variable {P : Program} {r : RB} {N : Nat} {s : St} {K : St → Prop} {dst : Option Nat} {ty : TypeId} {pos : String} {after : Array Edge} {g : Option (Nat × Bool)} {os : Nat → Option AO}
def fBuild (P : Program) (ti : TI) (ps : List (Nat × AV)) : Option Eff :=
    if ti.zero.all Value.oneCell' ∧ ti.sz = ti.zero.length ∧ 0 < ti.sz then
      match ti.k with
      | .struct fs => if fs.all (fun f => (tyOf P f.2).agg.isSome) = false then none else (fillParts (pvals ti.zero) (fun i => (fs[i]?).map fun f => (f.1, (tyOf P f.2).sz)) ps).map fun cs => .pure (.agg cs)
      | .arr _ e => if (tyOf P e).agg.isSome = false then none else (fillParts (pvals ti.zero) (fun i => some (i * (tyOf P e).sz, (tyOf P e).sz)) ps).map fun cs => .pure (.agg cs)
      | _ => none
    else none
theorem EO_build {t : TypeId} {parts : Array (Nat × Operand)} : EO P r N ⟨dst, .build t parts, ty, pos, after, g⟩ s K = EOp r.b N dst s K (fBuild P (tyOf P t) (parts.toList.map fun p => (p.1, ev s.t p.2))) := EO_eff rfl rfl rfl
theorem fBuild_struct {fs : List (Nat × Nat)} {sz b : Nat} {z : List Value} {ps : List (Nat × AV)} : fBuild P ⟨.struct fs, sz, b, z⟩ ps = if z.all Value.oneCell' ∧ sz = z.length ∧ 0 < sz then (if fs.all (fun f => (tyOf P f.2).agg.isSome) = false then none else (fillParts (pvals z) (fun i => (fs[i]?).map fun f => (f.1, (tyOf P f.2).sz)) ps).map fun cs => .pure (.agg cs)) else none := rfl
theorem fBuild_arr {n e sz b : Nat} {z : List Value} {ps : List (Nat × AV)} : fBuild P ⟨.arr n e, sz, b, z⟩ ps = if z.all Value.oneCell' ∧ sz = z.length ∧ 0 < sz then (if (tyOf P e).agg.isSome = false then none else (fillParts (pvals z) (fun i => some (i * (tyOf P e).sz, (tyOf P e).sz)) ps).map fun cs => .pure (.agg cs)) else none := rfl
def fPart (zero : List AV) (place : Nat → Option (Nat × Nat)) (r : List (Nat × AV)) : Option (Nat × Nat) → Option (List AV) → Option (List AV)
  | some (off, sz), some cs => if cs.length = sz ∧ off + cs.length ≤ zero.length then fillParts (putCells zero off cs) place r else none
  | _, _ => none
theorem fillParts_nil {zero : List AV} {place : Nat → Option (Nat × Nat)} : fillParts zero place [] = some zero := rfl
theorem fillParts_cons {zero : List AV} {place : Nat → Option (Nat × Nat)} {i : Nat} {x : AV} {r : List (Nat × AV)} : fillParts zero place ((i, x) :: r) = fPart zero place r (place i) x.cs? := by
  rw [fillParts]; unfold fPart; rfl
theorem fPart_some {zero : List AV} {place : Nat → Option (Nat × Nat)} {r : List (Nat × AV)} {off sz : Nat} {cs : List AV} : fPart zero place r (some (off, sz)) (some cs) = if cs.length = sz ∧ off + cs.length ≤ zero.length then fillParts (putCells zero off cs) place r else none := rfl
def gBS (ti : TI) (d len : Nat) : Option (List (List PV)) → Option Eff
  | some es => if es.length = len ∧ ti.agg.isSome ∧ len * ti.sz ≤ 16777216 ∧ (len = 0 ∨ (ti.sz = ti.zero.length ∧ 0 < ti.sz)) then some (.new (.arr ti.sz es) (.own d len)) else none
  | none => none
theorem gBS_some {ti : TI} {d len : Nat} {es : List (List PV)} : gBS ti d len (some es) = if es.length = len ∧ ti.agg.isSome ∧ len * ti.sz ≤ 16777216 ∧ (len = 0 ∨ (ti.sz = ti.zero.length ∧ 0 < ti.sz)) then some (.new (.arr ti.sz es) (.own d len)) else none := rfl
def fBS (P : Program) (d len : Nat) (ps : List (Nat × AV)) : TK → Option Eff
  | .sl e => gBS (tyOf P e) d len (partElems (tyOf P e).sz 0 ps)
  | _ => none
theorem fBS_sl {d len e : Nat} {ps : List (Nat × AV)} : fBS P d len ps (.sl e) = gBS (tyOf P e) d len (partElems (tyOf P e).sz 0 ps) := rfl
theorem EO_buildSlice {t : TypeId} {n : Nat} {parts : Array (Nat × Operand)} : EO P r N ⟨dst, .buildSlice t n parts, ty, pos, after, g⟩ s K = EOp r.b N dst s K (fBS P (r.b + dst.getD 0) n (parts.toList.map fun p => (p.1, ev s.t p.2)) (tyOf P t).k) := by
  refine EO_eff rfl rfl ?_
  simp only [eff]
  cases (tyOf P t).k <;> simp only [fBS]
  unfold gBS
  cases partElems _ _ _ <;> rfl
def oPE (i j k : Nat) (x : Option (List PV)) (y : Option (List (List PV))) : Option (List (List PV)) := match x, y with
  | some c, some es => if j = i ∧ c.length = k then some (c :: es) else none
  | _, _ => none
theorem partElems_nil {k i : Nat} : partElems k i [] = some [] := rfl
theorem partElems_cons {k i j : Nat} {x : AV} {l : List (Nat × AV)} : partElems k i ((j, x) :: l) = oPE i j k (x.cs?.bind pvs?) (partElems k (i + 1) l) := by
  rw [partElems]; unfold oPE; rfl
theorem oPE_some {i j k : Nat} {c : List PV} {es : List (List PV)} : oPE i j k (some c) (some es) = if j = i ∧ c.length = k then some (c :: es) else none := rfl
theorem resVar_cell' {i : Nat} {t : TypeId} : resVar P s (.cell i t) = match s.t i, (tyOf P t).agg with
    | .ptr n off, some g => match s.o n with
      | some (.cells cs) => (takeCells g (tyOf P t).sz (cs.drop off)).bind (viewA s.o)
      | _ => none
    | _, _ => none := rfl
def gCell (_ : Program) (sz off : Nat) (g : Bool) (os : Nat → Option AO) : Option AO → Option AV
  | some (.cells cs) => (takeCells g sz (cs.drop off)).bind (viewA os)
  | _ => none
theorem gCell_cells {sz off : Nat} {b : Bool} {cs : List AV} : gCell P sz off b os (some (.cells cs)) = (takeCells b sz (cs.drop off)).bind (viewA os) := rfl
def fCell (P : Program) (sz : Nat) (os : Nat → Option AO) : AV → Option Bool → Option AV
  | .ptr n off, some g => gCell P sz off g os (os n)
  | _, _ => none
theorem fCell_ptr {sz n off : Nat} {b : Bool} : fCell P sz os (.ptr n off) (some b) = gCell P sz off b os (os n) := rfl
theorem resVar_cell {i : Nat} {t : TypeId} : resVar P s (.cell i t) = fCell P (tyOf P t).sz s.o (s.t i) (tyOf P t).agg := by
  rw [resVar_cell']; unfold fCell gCell; rfl
def oc2R (x y : Option AV) : Option AV := match x, y with | some a, some b => some (.tup [a, b]) | _, _ => none
theorem resVars_2 {x y : ResultVar} : (resVars P s [x, y]).map resOf = oc2R (resVar P s x) (resVar P s y) := by
  simp only [resVars]
  cases resVar P s x <;> cases resVar P s y <;> rfl
theorem oc2R_some {x y : AV} : oc2R (some x) (some y) = some (.tup [x, y]) := rfl
theorem list_app_nil {α : Type} (l : List α) : [] ++ l = l := rfl
end
end AM
namespace AM
open Go
theorem RB.b_mk {r : RX} {b : Nat} {v q : List Nat} : RB.b ⟨r, b, v, q⟩ = b := rfl
theorem RB.v_mk {r : RX} {b : Nat} {v q : List Nat} : RB.v ⟨r, b, v, q⟩ = v := rfl
theorem RB.q_mk {r : RX} {b : Nat} {v q : List Nat} : RB.q ⟨r, b, v, q⟩ = q := rfl
end AM
namespace AM
open Go
theorem one_nilFunc : Value.nilFunc.oneCell' = true := rfl
theorem ev_nilFunc (t : Nat → AV) : ev t (.const .nilFunc) = .p (.val .nilFunc) := rfl
end AM
namespace AM
open Go
section
variable {P : Program} {r : RB} {N : Nat} {s : St} {K : St → Prop} {dst : Option Nat} {ty : TypeId} {pos : String} {after : Array Edge} {g : Option (Nat × Bool)}
def EMm (r : RB) (N : Nat) (dst : Option Nat) (s : St) (K : St → Prop) : Prop := ∃ dd n g, dst = some dd ∧ dd < N ∧ s.o (r.b + dd) = none ∧ K ((s.setO (r.b + dd) (.obj (MemoO n g))).put dst (.mp (r.b + dd)))
theorem EO_makeMap {t : TypeId} : EO P r N ⟨dst, .makeMap t none, ty, pos, after, g⟩ s K = EMm r N dst s K := by unfold EO; rw [if_pos (by rfl)]; rfl
theorem EMm_intro {d : Nat} (n : Nat) (gg : List Int → Int) (h1 : d < N) (h2 : s.o (r.b + d) = none) (h3 : K ((s.setO (r.b + d) (.obj (MemoO n gg))).put (some d) (.mp (r.b + d)))) : EMm r N (some d) s K := ⟨d, n, gg, rfl, h1, h2, h3⟩
def EMl (P : Program) (N : Nat) (t : TypeId) (x i : AV) (dst : Option Nat) (s : St) (K : St → Prop) : Prop := dstOk N dst = true ∧ ∃ k e m n g cs ks, (tyOf P t).k = .mp k e ∧ (∀ w, (zeroValue e).run P w = .ok (.int .i64 0) w) ∧ KeyOk P k n ∧ x = .mp m ∧ s.o m = some (.obj (MemoO n g)) ∧ i = .agg cs ∧ intsOf cs = some ks ∧ ks.length = n ∧ ks.all inR = true ∧
      K (s.put dst (.tup [.p (.val (.int .i64 (g ks))), .p (.val (.bool true))])) ∧ K (s.put dst (.tup [.p (.val (.int .i64 0)), .p (.val (.bool false))]))
theorem EO_lookup {t : TypeId} {x i : Operand} : EO P r N ⟨dst, .lookup t x i true, ty, pos, after, g⟩ s K = EMl P N t (ev s.t x) (ev s.t i) dst s K := by unfold EO; rw [if_pos (by rfl)]; rfl
theorem EMl_intro {t k e : TypeId} {m n : Nat} {gg : List Int → Int} {cs : List AV} {ks : List Int} (h0 : dstOk N dst = true) (h1 : (tyOf P t).k = .mp k e) (h2 : ∀ w, (zeroValue e).run P w = .ok (.int .i64 0) w) (h3 : KeyOk P k n) (h5 : s.o m = some (.obj (MemoO n gg))) (h7 : intsOf cs = some ks) (h8 : ks.length = n) (h9 : ks.all inR = true)
    (h10 : K (s.put dst (.tup [.p (.val (.int .i64 (gg ks))), .p (.val (.bool true))]))) (h11 : K (s.put dst (.tup [.p (.val (.int .i64 0)), .p (.val (.bool false))]))) : EMl P N t (.mp m) (.agg cs) dst s K := ⟨h0, k, e, m, n, gg, cs, ks, h1, h2, h3, rfl, h5, rfl, h7, h8, h9, h10, h11⟩
def EMu (P : Program) (t : TypeId) (x i v : AV) (dst : Option Nat) (s : St) (K : St → Prop) : Prop := dst = none ∧ ∃ k e m n g cs ks, (tyOf P t).k = .mp k e ∧ KeyOk P k n ∧ x = .mp m ∧ s.o m = some (.obj (MemoO n g)) ∧ i = .agg cs ∧ intsOf cs = some ks ∧ ks.length = n ∧ ks.all inR = true ∧ v = .p (.val (.int .i64 (g ks))) ∧ K s
theorem EO_mapUpdate {t : TypeId} {x i v : Operand} : EO P r N ⟨dst, .mapUpdate t x i v, ty, pos, after, g⟩ s K = EMu P t (ev s.t x) (ev s.t i) (ev s.t v) dst s K := by unfold EO; rw [if_pos (by rfl)]; rfl
theorem EMu_intro {t k e : TypeId} {m n : Nat} {gg : List Int → Int} {cs : List AV} {ks : List Int} {y : Int} (h1 : (tyOf P t).k = .mp k e) (h3 : KeyOk P k n) (h5 : s.o m = some (.obj (MemoO n gg))) (h7 : intsOf cs = some ks) (h8 : ks.length = n) (h9 : ks.all inR = true) (hy : y = gg ks) (h11 : K s) : EMu P t (.mp m) (.agg cs) (.p (.val (.int .i64 y))) none s K :=
  ⟨rfl, k, e, m, n, gg, cs, ks, h1, h3, rfl, h5, rfl, h7, h8, h9, by rw [hy], h11⟩
end
end AM
end
/- The abstract machine, part 35: regions that draw their order: conflicts that the values decide. -/
section
namespace AM
open Go
def AV.known : AV → Bool
  | .undef => false
  | _ => true
def nameOf : AV → Option Nat
  | .ptr n _ => some n
  | .eptr n _ _ _ => some n
  | _ => none
inductive Cf where
  | sto (ts : List Nat) (x : Nat)
  | app (ts : List Nat)
def Cf.ok (t : Nat → AV) : Cf → Bool
  | .sto ts x => match nameOf (t x) with
    | some n => ts.all fun i => (t i).known && (t i).clean n
    | none => false
  | .app ts => ts.all fun i => (t i).known
def Cf.temps : Cf → List Nat
  | .sto ts x => x :: ts
  | .app ts => ts
def tame (v : List Nat) (o : Oper) : Bool := (qop o.op && !isV v o.op) || (lsto o.op && o.guard.isNone && o.dst.isNone) || (lapp o.op && o.guard.isNone)
section
variable {P : Program} {r : RB} {N : Nat} {all : List Oper}
theorem sto_eff {d : Nat} {t : TypeId} {x v : Operand} {ρ : Operand → AV} {os : Nat → Option AO} {e : Eff} (he : eff P d (.store t x v) ρ os = some e) : ∃ n o, e = .upd n o ∧ nameOf (ρ x) = some n ∧ (os n).isSome = true ∧ ∀ d' os', os' n = os n → eff P d' (.store t x v) ρ os' = some e := by
  simp only [eff] at he
  split at he
  · rename_i vs g hvs hg
    split at he
    · rename_i hl
      split at he
      · rename_i n off hx
        split at he
        · rename_i cs hn
          split at he
          · rename_i hc
            cases he
            refine ⟨n, _, rfl, by rw [hx]; rfl, by rw [hn]; rfl, fun d' os' ho => ?_⟩
            simp only [eff, hvs, hg, hx, ho, hn]
            rw [if_pos hl, if_pos hc]
          · cases he
        · cases he
      · rename_i n k i off hx
        split at he
        · rename_i k' es ps hn hp
          split at he
          · rename_i hc
            cases he
            refine ⟨n, _, rfl, by rw [hx]; rfl, by rw [hn]; rfl, fun d' os' ho => ?_⟩
            simp only [eff, hvs, hg, hx, ho, hn, hp]
            rw [if_pos hl, if_pos hc]
          · cases he
        · cases he
      · cases he
    · cases he
  · cases he
theorem nameOf_known {x : AV} {n : Nat} (h : nameOf x = some n) : x.known = true ∧ x.clean n = false := by
  unfold nameOf at h
  split at h
  · cases h; exact ⟨rfl, by simp [AV.clean]⟩
  · cases h; exact ⟨rfl, by simp [AV.clean]⟩
  · cases h
theorem app_own {d : Nat} {op : Op} {ρ : Operand → AV} {os : Nat → Option AO} {n : Nat} {o : AO} {x : AV} (h : lapp op = true) (he : eff P d op ρ os = some (.app n o x)) : ∃ k es, os n = some (.arr k es) := by
  unfold lapp at h
  split at h
  · rename_i as ts
    simp only [eff] at he
    split at he
    · split at he
      · split at he
        · split at he
          · split at he
            · split at he
              · cases he
              · cases he
            · split at he
              · rename_i hn
                split at he
                · cases he; exact ⟨_, _, hn⟩
                · cases he
              · cases he
            · cases he
          · cases he
        · cases he
      · cases he
    · cases he
  · cases h
theorem put_t {s : St} {dst : Option Nat} {x : AV} {i : Nat} (h : dst ≠ some i) : (s.put dst x).t i = s.t i := by
  cases dst with
  | none => rfl
  | some d => exact upd_other (fun e => h (by rw [e]))
theorem el_final {K : St → Prop} : ∀ {l : List Oper} {s : St}, s.closed → (∀ o ∈ l, tame r.v o = true) → EL P r N all l s K → ∃ s', K s' ∧ ∀ t, (∀ o ∈ l, o.dst ≠ some t) → s'.t t = s.t t ∨ s'.t t = .undef
  | [], s, _, _, h => ⟨s, h, fun _ _ => .inl rfl⟩
  | o :: l, s, hc, ht, h => by
    have h0 := ht o (by simp)
    have hl : ∀ o ∈ l, tame r.v o = true := fun q hq => ht q (by simp [hq])
    have step : ∀ s1 : St, s1.closed → EL P r N all l s1 K → (∀ t, o.dst ≠ some t → s1.t t = s.t t ∨ s1.t t = .undef) → ∃ s', K s' ∧ ∀ t, (∀ q ∈ o :: l, q.dst ≠ some t) → s'.t t = s.t t ∨ s'.t t = .undef := by
      intro s1 hc1 h1 h2
      obtain ⟨s', hK, h3⟩ := el_final hc1 hl h1
      refine ⟨s', hK, fun t htt => ?_⟩
      rcases h3 t (fun q hq => htt q (by simp [hq])) with h4 | h4
      · rw [h4]; exact h2 t (htt o (by simp))
      · exact .inr h4
    simp only [tame, Bool.or_eq_true, Bool.and_eq_true, Bool.not_eq_true', Option.isNone_iff_eq_none] at h0
    rcases h0 with (h0 | h0) | h0
    · rw [E1 h0.1 h0.2 hc] at h
      obtain ⟨_, x, ob, h2, h3⟩ := h
      exact step _ (GS_closed h0.1 hc h2) h3 fun t htt => .inl (nextQ_t htt)
    · obtain ⟨f1, f2, f3⟩ := sto_flags h0.1.1
      rw [EL_some h0.1.2 f1 f2 f3] at h
      obtain ⟨_, e, s', he, hs', h3⟩ := h
      obtain ⟨n, ob, rfl, h5, _⟩ := sto_kind h0.1.1 hc he
      cases hs'
      refine step _ (lives_put (closed_setO hc h5) (AV.lives_undef _)) h3 fun t htt => .inl ?_
      rw [put_t htt]; rfl
    · obtain ⟨f1, f2, f3⟩ := app_flags h0.1
      rw [EL_some h0.2 f1 f2 f3] at h
      obtain ⟨_, e, s', he, hs', h3⟩ := h
      rcases app_kind h0.1 he with ⟨k, es, len, rfl⟩ | ⟨n, k, es, len, rfl⟩
      · obtain ⟨d, hd, _, rfl⟩ := apply_new' hs'
        refine step _ (lives_new hc (AO.lives_arr _ _ _) (fun m hm => by rw [hd] at hm; exact clean_own m hm)) h3 fun t htt => .inl ?_
        rw [← hd, put_t htt]; rfl
      · obtain ⟨d, hd, _, rfl⟩ := apply_app' hs'
        refine step _ (lives_new (closed_purge hc n) (AO.lives_arr _ _ _) (fun m hm => by rw [hd] at hm; exact clean_own m hm)) h3 fun t htt => ?_
        rw [← hd, put_t htt]
        exact purge_cases n (s.t t)
def SwapAt (P : Program) (r : RB) (N : Nat) (all : List Oper) (D : (Nat → AV) → Prop) (i j : Oper) (l : List Oper) : Prop :=
  ∀ s K, s.closed → (∀ s' : St, K s' → D s'.t) → EL P r N all (i :: j :: l) s K → EL P r N all (j :: i :: l) s K
theorem swapAt_of {D : (Nat → AV) → Prop} {i j : Oper} {l : List Oper} (h : Swaps P r N all i j) : SwapAt P r N all D i j l := fun s K hc _ hE => h l s K hc hE
theorem swap_q_sto {D : (Nat → AV) → Prop} {j i : Oper} {l : List Oper} {t : TypeId} {xt : Nat} {v : Operand} (hj : qop j.op = true) (hjv : isV r.v j.op = false) (hi : i.op = .store t (.tmp xt) v) (hig : i.guard = none) (hid : i.dst = none) (hap : j.apart all.toArray i = true)
    (htame : ∀ o ∈ l, tame r.v o = true) (hfree : ∀ q ∈ (Cf.sto (j.looksAt all.toArray) xt).temps, j.dst ≠ some q ∧ ∀ o ∈ l, o.dst ≠ some q) (hD : ∀ f, D f → Cf.ok f (.sto (j.looksAt all.toArray) xt) = true) : SwapAt P r N all D j i l := by
  intro s K hc hK hE
  have hsto : lsto i.op = true := by rw [hi]; rfl
  obtain ⟨f1, f2, f3⟩ := sto_flags hsto
  obtain ⟨a1, a2, a3⟩ := Oper.apart_spec hap
  rw [E1 hj hjv hc] at hE
  obtain ⟨h1, x, ob, h2, h3⟩ := hE
  have hc1 := GS_closed hj hc h2
  rw [EL_some hig f1 f2 f3] at h3
  obtain ⟨h4, e, s2, he, hs2, h5⟩ := h3
  rw [hi] at he
  obtain ⟨n, o, rfl, hname, hlive, hloc⟩ := sto_eff he
  have hs2' : s2 = (nextQ r.b j.dst x ob s).setO n o := by rw [hid] at hs2; cases hs2; rfl
  have hc2 : s2.closed := by
    rw [hs2']
    obtain ⟨n', o', e1, e2, _⟩ := sto_kind (P := P) (d := r.b + i.dst.getD 0) (op := i.op) hsto hc1 (by rw [hi]; exact he)
    cases e1
    exact closed_setO hc1 e2
  obtain ⟨s', hKs, hfin⟩ := el_final hc2 htame h5
  have hok := hD _ (hK _ hKs)
  have hval : ∀ q ∈ (Cf.sto (j.looksAt all.toArray) xt).temps, (s'.t q).known = true → s'.t q = s.t q := fun q hq hkn => by
    have h6 := (hfree q hq)
    rcases hfin q h6.2 with h7 | h7
    · rw [h7, hs2']
      exact nextQ_t h6.1
    · rw [h7] at hkn; cases hkn
  simp only [Cf.ok] at hok
  split at hok
  · rename_i n' hn'
    have hkx : (s'.t xt).known = true := (nameOf_known hn').1
    have hxs := hval xt (by simp [Cf.temps]) hkx
    have hx1 : (nextQ r.b j.dst x ob s).t xt = s.t xt := nextQ_t (hfree xt (by simp [Cf.temps])).1
    have hev : ev (nextQ r.b j.dst x ob s).t (.tmp xt) = s.t xt := hx1
    rw [hev, ← hxs, hn'] at hname
    cases hname
    rw [List.all_eq_true] at hok
    have hlook : ∀ q ∈ j.looksAt all.toArray, (s.t q).clean n = true := fun q hq => by
      have h6 := hok q hq
      simp only [Bool.and_eq_true] at h6
      rw [← hval q (by simp [Cf.temps, hq]) h6.1]
      exact h6.2
    have hns : (s.o n).isSome = true := hc.1 xt n (by
      rw [← hxs]
      exact (nameOf_known hn').2)
    have hne : ∀ d, j.dst = some d → ob ≠ none → r.b + d ≠ n := fun d hd hob => by
      cases hob2 : ob with
      | none => exact absurd hob2 hob
      | some a =>
        rw [hob2] at h2
        obtain ⟨d', hd', hnone⟩ := GS_new h2
        rw [hd] at hd'; cases hd'
        intro e; rw [e] at hnone; rw [hnone] at hns; cases hns
    have ho1 : (nextQ r.b j.dst x ob s).o n = s.o n := nextQ_o (by
      by_cases hob : ob = none
      · exact .inr hob
      · exact .inl fun d hd => hne d hd hob)
    have heff : eff P (r.b + i.dst.getD 0) i.op (ev s.t) s.o = some (.upd n o) := by
      rw [hi]
      have h7 := hloc (r.b + i.dst.getD 0) s.o ho1.symm
      rw [← h7]
      exact (sto_local (P := P) (d := r.b + i.dst.getD 0) (os := s.o) (op := .store t (.tmp xt) v) rfl fun y hy => by
        have hyi : y ∈ i.op.operands.toList := by rw [hi]; exact hy
        cases y with
        | tmp q => exact (nextQ_t (fun e => a1 q e (ops_looks hyi rfl))).symm
        | _ => rfl)
    have hGS : GS P r.b all j (s.setO n o) x ob := GS_local (s := s) (s' := s.setO n o) hj ⟨fun q hq => rfl, fun q hq m hm => upd_other (fun e => by subst e; rw [hlook q hq] at hm; cases hm), fun d hd hnone => by
      show upd s.o n (some o) (r.b + d) = none
      rw [upd_other (fun e => by rw [← e] at hns; rw [hnone] at hns; cases hns)]
      exact hnone⟩ h2
    rw [EL_some hig f1 f2 f3]
    refine ⟨h4, _, s.setO n o, heff, by rw [hid]; rfl, ?_⟩
    have hc' : (s.setO n o).closed := by
      obtain ⟨n', o', e1, e2, _⟩ := sto_kind (P := P) (d := r.b + i.dst.getD 0) (op := i.op) hsto hc heff
      cases e1
      exact closed_setO hc e2
    rw [E1 hj hjv hc']
    refine ⟨h1, x, ob, hGS, ?_⟩
    have e9 : nextQ r.b j.dst x ob (s.setO n o) = s2 := by
      rw [hs2']
      cases hd : j.dst with
      | none => cases ob <;> rfl
      | some d =>
        cases hob : ob with
        | none => rfl
        | some a =>
          have hne' := hne d hd (by rw [hob]; simp)
          simp only [nextQ, St.put, St.setO]
          congr 1
          exact upd_comm (Ne.symm hne')
    rw [e9]; exact h5
  · cases hok
theorem swap_lsc_app {D : (Nat → AV) → Prop} {j i : Oper} {l : List Oper} {t : TypeId} {xt : Nat} (hj : j.op = .load t (.tmp xt)) (hjg : j.guard = none) (hag : (tyOf P t).agg = some false) (hi : lapp i.op = true) (hig : i.guard = none) (hap : j.apart all.toArray i = true)
    (htame : ∀ o ∈ l, tame r.v o = true) (hfree : ∀ q ∈ [xt], j.dst ≠ some q ∧ i.dst ≠ some q ∧ ∀ o ∈ l, o.dst ≠ some q) (hD : ∀ f, D f → Cf.ok f (.app [xt]) = true) : SwapAt P r N all D j i l := by
  intro s K hc hK hE
  obtain ⟨f1, f2, f3⟩ := app_flags hi
  obtain ⟨a1, a2, a3⟩ := Oper.apart_spec hap
  have q1 : goCall j.op = false := by rw [hj]; rfl
  have q2 : isDefer j.op = false := by rw [hj]; rfl
  have q3 : isM j.op = false := by rw [hj]; rfl
  rw [EL_some hjg q1 q2 q3] at hE
  obtain ⟨h1, e, s1, he, hs1, h2⟩ := hE
  have hld : ∀ (ρ : Operand → AV) os d, eff P d (.load t (.tmp xt)) ρ os = fLoad (tyOf P t).agg (tyOf P t).sz os (ρ (.tmp xt)) := fun _ _ _ => rfl
  rw [hj, hld, hag] at he
  have hpure : ∃ y, e = .pure y := by
    unfold fLoad at he
    simp only [] at he
    split at he
    · split at he
      · obtain ⟨y, _, rfl⟩ := Option.map_eq_some_iff.1 he; exact ⟨y, rfl⟩
      · cases he
    · split at he
      · split at he
        · obtain ⟨y, _, rfl⟩ := Option.map_eq_some_iff.1 he; exact ⟨y, rfl⟩
        · cases he
      · cases he
    · obtain ⟨y, _, rfl⟩ := Option.map_eq_some_iff.1 he; exact ⟨y, rfl⟩
    · cases he
  obtain ⟨y, rfl⟩ := hpure
  have hs1' : s1 = s.put j.dst y := by cases hs1; rfl
  subst hs1'
  rw [EL_some hig f1 f2 f3] at h2
  obtain ⟨h3, e2, s2, he2, hs2, h4⟩ := h2
  have ho : (s.put j.dst y).o = s.o := by cases j.dst <;> rfl
  have he2' : eff P (r.b + i.dst.getD 0) i.op (ev s.t) s.o = some e2 := by
    rw [← he2, ho]
    exact (app_local hi fun x hx => ev_put (fun d hd hxd => a1 d hd (ops_looks hx hxd))).symm
  have hxf := hfree xt (by simp)
  rw [EL_some hig f1 f2 f3]
  rcases app_kind hi he2' with ⟨k, es, len, rfl⟩ | ⟨n, k, es, len, rfl⟩
  · obtain ⟨d, hd, hn, rfl⟩ := apply_new' hs2
    rw [ho] at hn
    refine ⟨h3, _, (s.setO (r.b + d) (.arr k es)).put (some d) (.own (r.b + i.dst.getD 0) len), he2', by rw [hd]; simp [Eff.apply, hn], ?_⟩
    rw [EL_some hjg q1 q2 q3]
    refine ⟨h1, .pure y, _, ?_, rfl, ?_⟩
    · rw [hj, hld, hag]
      have e1 : ev ((s.setO (r.b + d) (.arr k es)).put (some d) (.own (r.b + i.dst.getD 0) len)).t (.tmp xt) = ev s.t (.tmp xt) := by
        show ((s.setO (r.b + d) (.arr k es)).put (some d) _).t xt = s.t xt
        rw [put_t (by rw [← hd]; exact hxf.2.1)]; rfl
      rw [e1, ← he]
      refine fLoad_local fun m hm => ?_
      show upd s.o (r.b + d) _ m = s.o m
      refine upd_other (fun em => ?_)
      have h6 := hc.1 xt m hm
      rw [em, hn] at h6; cases h6
    · have e9 : ((s.setO (r.b + d) (.arr k es)).put (some d) (.own (r.b + i.dst.getD 0) len)).put j.dst y = ((s.put j.dst y).setO (r.b + d) (.arr k es)).put (some d) (.own (r.b + i.dst.getD 0) len) := by
        cases hjd : j.dst with
        | none => rfl
        | some dj =>
          have hne : dj ≠ d := fun e => a2 dj hjd (by rw [hd, e])
          simp only [St.put, St.setO]
          congr 1
          exact upd_comm (Ne.symm hne)
      rw [e9]; exact h4
  · obtain ⟨d, hd, hn, rfl⟩ := apply_app' hs2
    have hp : ((s.put j.dst y).purge n).o = (s.purge n).o := by cases j.dst <;> rfl
    rw [hp] at hn
    have hc2 : ((((s.put j.dst y).purge n).setO (r.b + d) (.arr k es)).put (some d) (.own (r.b + i.dst.getD 0) len)).closed := by
      have hcy : (s.put j.dst y).closed := by
        have hgd := good_load (s := s) (d := r.b + j.dst.getD 0) (ag := some false) (sz := (tyOf P t).sz) (x := ev s.t (.tmp xt)) hc
        rw [he] at hgd
        exact lives_put hc (hgd _ rfl)
      exact lives_new (closed_purge hcy n) (AO.lives_arr _ _ _) (fun m hm => by rw [hd] at hm; exact clean_own m hm)
    obtain ⟨s', hKs, hfin⟩ := el_final hc2 htame h4
    have hok := hD _ (hK _ hKs)
    simp only [Cf.ok, List.all_cons, List.all_nil, Bool.and_true] at hok
    have hclean : (s.t xt).purge n = s.t xt := by
      rcases hfin xt hxf.2.2 with h7 | h7
      · rw [put_t (by rw [← hd]; exact hxf.2.1)] at h7
        have h8 : ((s.put j.dst y).purge n).t xt = (s.t xt).purge n := by
          show ((s.put j.dst y).t xt).purge n = _
          rw [put_t hxf.1]
        rw [show (((s.put j.dst y).purge n).setO (r.b + d) (.arr k es)).t xt = ((s.put j.dst y).purge n).t xt from rfl, h8] at h7
        rcases purge_cases n (s.t xt) with h9 | h9
        · exact h9
        · rw [h7, h9] at hok; cases hok
      · rw [h7] at hok; cases hok
    have hcl : (s.t xt).clean n = true := by rw [← hclean]; exact AV.clean_purge n _
    refine ⟨h3, _, ((s.purge n).setO (r.b + d) (.arr k es)).put (some d) (.own (r.b + i.dst.getD 0) len), he2', by rw [hd]; simp [Eff.apply, hn], ?_⟩
    rw [EL_some hjg q1 q2 q3]
    have e1 : ev (((s.purge n).setO (r.b + d) (.arr k es)).put (some d) (.own (r.b + i.dst.getD 0) len)).t (.tmp xt) = s.t xt := by
      show (((s.purge n).setO (r.b + d) (.arr k es)).put (some d) _).t xt = s.t xt
      rw [put_t (by rw [← hd]; exact hxf.2.1)]
      exact hclean
    have hld2 : fLoad (some false) (tyOf P t).sz (((s.purge n).setO (r.b + d) (.arr k es)).put (some d) (.own (r.b + i.dst.getD 0) len)).o (s.t xt) = some (.pure (y.purge n)) := by
      have he' : fLoad (some false) (tyOf P t).sz s.o (s.t xt) = some (.pure y) := he
      have hoo : ∀ m, m ≠ n → (s.o m).isSome = true → (((s.purge n).setO (r.b + d) (.arr k es)).put (some d) (.own (r.b + i.dst.getD 0) len)).o m = (s.o m).map (AO.purge n) := fun m hm hsm => by
        show upd (s.purge n).o (r.b + d) _ m = _
        have hmd : m ≠ r.b + d := fun em => by
          have h6 : (s.purge n).o m = (s.o m).map (AO.purge n) := St.purge_o_other s hm
          rw [em] at h6 hsm
          rw [hn] at h6
          rw [← Option.isSome_map (f := AO.purge n), ← h6] at hsm; cases hsm
        rw [upd_other hmd]
        exact St.purge_o_other s hm
      cases hx : s.t xt with
      | ptr m off =>
        rw [hx] at he' hcl
        rw [fLoad_ptr] at he' ⊢
        have hmn : m ≠ n := by simpa [AV.clean] using hcl
        cases hom : s.o m with
        | none => rw [hom] at he'; cases he'
        | some ao =>
          rw [hoo m hmn (by rw [hom]; rfl), hom]
          rw [hom] at he'
          cases ao with
          | cells cs =>
            simp only [fLoadP, Option.map_some, AO.purge, takeCells, Bool.false_eq_true, if_false] at he' ⊢
            rw [← List.map_drop]
            cases hdr : cs.drop off with
            | nil => rw [hdr] at he'; cases he'
            | cons z zs => rw [hdr] at he'; simp at he'; subst he'; rfl
          | _ => cases he'
      | eptr m k2 i2 off =>
        rw [hx] at he' hcl
        rw [fLoad_eptr] at he' ⊢
        have hmn : m ≠ n := by simpa [AV.clean] using hcl
        cases hom : s.o m with
        | none => rw [hom] at he'; cases he'
        | some ao =>
          rw [hoo m hmn (by rw [hom]; rfl), hom]
          rw [hom] at he'
          cases ao with
          | arr k3 es3 =>
            simp only [fLoadE, Option.map_some, AO.purge] at he' ⊢
            split at he'
            · rename_i hcc
              rw [if_pos hcc]
              simp only [takeCells, Bool.false_eq_true, if_false] at he' ⊢
              cases hdr : ((es3.getD i2 []).drop off) with
              | nil => rw [hdr] at he'; cases he'
              | cons z zs => rw [hdr] at he'; simp at he'; subst he'; rfl
            · cases he'
          | _ => cases he'
      | p z =>
        rw [hx] at he'
        cases z with
        | ro cs =>
          rw [fLoad_ro] at he' ⊢
          simp only [takeCells, Bool.false_eq_true, if_false] at he' ⊢
          cases cs with
          | nil => cases he'
          | cons z zs => simp at he'; subst he'; rfl
        | _ => cases he'
      | _ => rw [hx] at he'; cases he'
    refine ⟨h1, .pure (y.purge n), _, by rw [hj, hld, hag, e1]; exact hld2, rfl, ?_⟩
    have e9 : (((s.purge n).setO (r.b + d) (.arr k es)).put (some d) (.own (r.b + i.dst.getD 0) len)).put j.dst (y.purge n) = (((s.put j.dst y).purge n).setO (r.b + d) (.arr k es)).put (some d) (.own (r.b + i.dst.getD 0) len) := by
      cases hjd : j.dst with
      | none => rfl
      | some dj =>
        have hne : dj ≠ d := fun e => a2 dj hjd (by rw [hd, e])
        simp only [St.put, St.setO, St.purge]
        congr 1
        rw [upd_comm (Ne.symm hne)]
        congr 1
        funext q
        unfold upd
        by_cases hq : q = dj
        · subst hq; simp
        · simp [hq]
    rw [e9]; exact h4
end
end AM
end
/- The abstract machine, part 36: regions that draw their order: the check with the conflicts that the values decide. -/
section
namespace AM
open Go
def rop : Op → Bool
  | .nilCheck _ | .fieldAddr .. | .load .. => true
  | op => sil op
def isVq (v q : List Nat) : Op → Bool
  | .call ⟨.value (.func f), _, _⟩ => v.contains f && q.contains f
  | _ => false
section
variable {P : Program} {r : RB} {N : Nat} {all : List Oper}
theorem rop_q {op : Op} (h : rop op = true) : qop op = true ∧ goCall op = false ∧ isDefer op = false ∧ isM op = false := by
  cases op <;> first | (simp [rop, sil] at h; done) | exact ⟨rfl, rfl, rfl, rfl⟩
theorem rop_pure {d : Nat} {op : Op} {ρ : Operand → AV} {os : Nat → Option AO} {e : Eff} (h : rop op = true) (he : eff P d op ρ os = some e) : ∃ y, e = .pure y := by
  by_cases hs : sil op = true
  · exact sil_pure hs he
  · cases op <;> simp only [rop] at h <;> first | (exact absurd h hs) | skip
    · rename_i t x
      have hld : eff P d (.load t x) ρ os = fLoad (tyOf P t).agg (tyOf P t).sz os (ρ x) := rfl
      rw [hld] at he
      unfold fLoad at he
      split at he
      · cases he
      · split at he
        · split at he
          · obtain ⟨y, _, rfl⟩ := Option.map_eq_some_iff.1 he; exact ⟨y, rfl⟩
          · cases he
        · split at he
          · split at he
            · obtain ⟨y, _, rfl⟩ := Option.map_eq_some_iff.1 he; exact ⟨y, rfl⟩
            · cases he
          · cases he
        · obtain ⟨y, _, rfl⟩ := Option.map_eq_some_iff.1 he; exact ⟨y, rfl⟩
        · cases he
    · simp only [eff] at he
      split at he <;> first | (cases he; done) | (cases he; exact ⟨_, rfl⟩)
    · simp only [eff] at he
      split at he
      · split at he
        · split at he
          · cases he
          · split at he <;> first | (cases he; done) | (cases he; exact ⟨_, rfl⟩)
        · cases he
      · cases he
theorem EL_vq {o : Oper} {rest : List Oper} {s : St} {K : St → Prop} {f : FuncId} {as : Array Operand} {ts : Array TypeId} (hg : o.guard = none) (hop : o.op = .call ⟨.value (.func f), as, ts⟩) (hv : r.v.contains f = true) (hq : r.q.contains f = true) :
    EL P r N all (o :: rest) s K = EVq P r N (.fn (.func f) [] []) (as.toList.map (ev s.t)) o.dst s (fun s' => EL P r N all rest s' K) := by
  obtain ⟨dst, op, ty, pos, after, g⟩ := o
  simp only at hg hop
  subst hg hop
  rw [EL_go, EO_call, hv, hq]
  rfl
theorem steps_vq {o : Oper} {f : FuncId} {as : Array Operand} {ts : Array TypeId} (hg : o.guard = none) (hop : o.op = .call ⟨.value (.func f), as, ts⟩) (hv : r.v.contains f = true) (hq : r.q.contains f = true) : Steps P r N all o := by
  intro l l' s K hc hl hE
  rw [EL_vq hg hop hv hq] at hE ⊢
  obtain ⟨h1, bd, res, h2, h3, h4, h5, h6⟩ := hE
  exact ⟨h1, bd, res, h2, h3, h4, h5, hl _ (lives_put hc (lives_isP _ h5)) h6⟩
theorem swap_r_vq {j i : Oper} {f : FuncId} {as : Array Operand} {ts : Array TypeId} (hj : rop j.op = true) (hjg : j.guard = none) (hig : i.guard = none) (hop : i.op = .call ⟨.value (.func f), as, ts⟩) (hv : r.v.contains f = true) (hq : r.q.contains f = true) (hap : j.apart all.toArray i = true) : Swaps P r N all j i := by
  intro l s K hc hE
  obtain ⟨q0, q1, q2, q3⟩ := rop_q hj
  obtain ⟨a1, a2, a3⟩ := Oper.apart_spec hap
  rw [EL_some hjg q1 q2 q3] at hE
  obtain ⟨h1, e, s1, he, hs1, h2⟩ := hE
  obtain ⟨y, rfl⟩ := rop_pure hj he
  have hs1' : s1 = s.put j.dst y := by cases hs1; rfl
  subst hs1'
  rw [EL_vq hig hop hv hq] at h2 ⊢
  obtain ⟨h3, bd, res, h4, h5, h6, h7, h8⟩ := h2
  have ho : (s.put j.dst y).o = s.o := by cases j.dst <;> rfl
  have hargs : as.toList.map (ev (s.put j.dst y).t) = as.toList.map (ev s.t) := List.map_congr_left fun x hx => ev_put (fun d hd hxd => a1 d hd (ops_looks (o := i) (by rw [hop]; simp [Op.operands, Call.operands]; right; simpa using hx) hxd))
  rw [ho, hargs] at h4
  rw [ho] at h5
  refine ⟨h3, bd, res, h4, h5, h6, h7, ?_⟩
  show EL P r N all (j :: l) (s.put i.dst res) K
  rw [EL_some hjg q1 q2 q3]
  refine ⟨h1, .pure y, _, ?_, rfl, ?_⟩
  · rw [← he]
    have ho2 : (s.put i.dst res).o = s.o := by cases i.dst <;> rfl
    rw [ho2]
    exact eff_local q0 q1 ⟨fun x hx => ev_put (fun d hd hxd => a3 d hd (ops_looks hx hxd)), fun _ _ _ _ => rfl⟩
  · have e9 : (s.put i.dst res).put j.dst y = (s.put j.dst y).put i.dst res := by
      cases hjd : j.dst with
      | none => rfl
      | some dj => cases hid : i.dst with
        | none => rfl
        | some di =>
          have hne : dj ≠ di := fun e => a2 dj hjd (by rw [hid, e])
          simp only [St.put]
          congr 1
          exact upd_comm (Ne.symm hne)
    rw [e9]; exact h8
theorem bubble3 {D : (Nat → AV) → Prop} {oi : Oper} {post : List Oper} {K : St → Prop} (hK : ∀ s' : St, K s' → D s'.t) : ∀ {pre : List Oper} {s : St}, s.closed → (∀ p1 oj p2, pre = p1 ++ oj :: p2 → Steps P r N all oj ∧ SwapAt P r N all D oj oi (p2 ++ post)) →
    EL P r N all (pre ++ oi :: post) s K → EL P r N all (oi :: (pre ++ post)) s K
  | [], _, _, _, h => h
  | oj :: pre, s, hc, hp, h => by
    have hj := hp [] oj pre rfl
    exact hj.2 s K hc hK (hj.1 _ _ s K hc (fun s1 hc1 h1 => bubble3 hK hc1 (fun p1 o2 p2 e => hp (oj :: p1) o2 p2 (by rw [e]; rfl)) h1) h)
end
section
variable {P : Program} {r : RB} {N : Nat} {ops : List Oper}
theorem filterMap_split {ops : List Oper} : ∀ {pre : List Nat} {p1 : List Oper} {oj : Oper} {p2 : List Oper}, pre.filterMap (ops[·]?) = p1 ++ oj :: p2 → ∃ l1 j l2, pre = l1 ++ j :: l2 ∧ ops[j]? = some oj ∧ l2.filterMap (ops[·]?) = p2
  | [], p1, oj, p2, h => by simp at h
  | k :: pre, p1, oj, p2, h => by
    rw [List.filterMap_cons] at h
    cases hk : ops[k]? with
    | none =>
      rw [hk] at h
      obtain ⟨l1, j, l2, e1, e2, e3⟩ := filterMap_split h
      exact ⟨k :: l1, j, l2, by rw [e1]; rfl, e2, e3⟩
    | some o =>
      rw [hk] at h
      cases p1 with
      | nil =>
        simp only [List.nil_append, List.cons.injEq] at h
        exact ⟨[], k, pre, rfl, by rw [hk, h.1], h.2⟩
      | cons x p1 =>
        simp only [List.cons_append, List.cons.injEq] at h
        obtain ⟨l1, j, l2, e1, e2, e3⟩ := filterMap_split h.2
        exact ⟨k :: l1, j, l2, by rw [e1]; rfl, e2, e3⟩
theorem any_text3 {D : (Nat → AV) → Prop} {b : Nat → Nat} (hb : Masks ops b)
    (hsw : ∀ (i j : Nat) (oi oj : Oper) (rest : List Nat), j < i → ops[i]? = some oi → ops[j]? = some oj → (b i).testBit j = false → (∀ k ∈ rest, j < k ∧ k ≠ i ∧ (k < i → (b i).testBit k = false)) → Steps P r N ops oj ∧ SwapAt P r N ops D oj oi (rest.filterMap (ops[·]?)))
    {K : St → Prop} (hK : ∀ s' : St, K s' → D s'.t) {Q : Exit → Act → World → Prop} :
    ∀ (fuel : Nat) (listed : Array Bool) (s : St) (B : Nat) (S : Nat → Prop) (θ : Nat → Loc) (M : Nat → Prop) (w : World) (a : Act), SRel N B S θ M w s a → listed.size = ops.length → ClosedL ops listed → (remI ops.length listed).length ≤ fuel →
      EL P r N ops ((remI ops.length listed).filterMap (ops[·]?)) s K → (∀ s' a' w', K s' → Fin r N B S θ M w a s' a' w' → Q .normal a' w') → wpAnyIn (Wd r.rd) 0 P .any ops.toArray Q fuel listed a w := by
  intro fuel
  have hready : ∀ {listed : Array Bool} {x : Nat}, x ∈ Region.ready .any ops.toArray listed → x ∈ remI ops.length listed := fun h => ((mem_ready rfl).1 h).1
  induction fuel with
  | zero =>
    intro listed s B S θ M w a hs hsz hcl hf hE hQ
    have hnil : remI ops.length listed = [] := List.length_eq_zero_iff.1 (by omega)
    refine ⟨List.eq_nil_iff_forall_not_mem.2 fun x hx => ?_, ?_⟩
    · have := hready hx
      rw [hnil] at this; cases this
    · rw [hnil] at hE
      exact hQ s a w hE ⟨AdvM.refl hs, rfl⟩
  | succ fuel ih =>
    intro listed s B S θ M w a hs hsz hcl hf hE hQ
    refine ⟨fun hr => ?_, fun i hi => ?_⟩
    · have hnil : remI ops.length listed = [] := by
        cases hrem : remI ops.length listed with
        | nil => rfl
        | cons x l =>
          exfalso
          have hx : x ∈ remI ops.length listed := by rw [hrem]; simp
          have hsort : (remI ops.length listed).Pairwise (· < ·) := (List.pairwise_lt_range).filter _
          rw [hrem, List.pairwise_cons] at hsort
          obtain ⟨hxn, hxl⟩ := mem_remI.1 hx
          have : x ∈ Region.ready .any ops.toArray listed := (mem_ready rfl).2 ⟨hx, ops[x], by simp [hxn], fun e he hbe => by
            have hlt := hb.lt x ops[x] (by simp [hxn]) e he hbe
            cases hl : listed.getD e.on false with
            | true => rfl
            | false =>
              exfalso
              have hen : e.on < ops.length := Nat.lt_trans hlt hxn
              have : e.on ∈ remI ops.length listed := mem_remI.2 ⟨hen, by
                rw [Array.getD_eq_getD_getElem?] at hl ⊢
                have hsz' : e.on < listed.size := by omega
                simp only [Array.getElem?_eq_getElem hsz', Option.getD_some] at hl ⊢
                exact hl⟩
              rw [hrem] at this
              rcases List.mem_cons.1 this with h | h
              · omega
              · have := hsort.1 _ h; omega⟩
          rw [hr] at this; cases this
      rw [hnil] at hE
      exact hQ s a w hE ⟨AdvM.refl hs, rfl⟩
    · obtain ⟨hrem, o, ho, hafter⟩ := (mem_ready rfl).1 hi
      obtain ⟨pre, post, he, hpre, hset⟩ := remI_split hsz hrem
      have hsort : (pre ++ i :: post).Pairwise (· < ·) := by rw [← he]; exact (List.pairwise_lt_range).filter _
      have hnl : ∀ k ∈ pre ++ i :: post, listed.getD k true = false := fun k hk => (mem_remI.1 (show k ∈ remI ops.length listed by rw [he]; exact hk)).2
      have hfree : ∀ k ∈ pre ++ post, k < i → (b i).testBit k = false := fun k hk hki => by
        cases ht : (b i).testBit k with
        | false => rfl
        | true =>
          have h1 := masks_listed hb hcl i o ho hafter hki ht
          have h2 := hnl k (by
            rcases List.mem_append.1 hk with h | h
            · simp [h]
            · simp [h])
          rw [getD_tf h2] at h1; cases h1
      rw [he, List.filterMap_append, List.filterMap_cons] at hE
      simp only [ho] at hE
      have hE' := bubble3 hK hs.cl (fun p1 oj p2 hp => by
        obtain ⟨l1, j, l2, e1, e2, e3⟩ := filterMap_split hp
        have hjp : j ∈ pre := by rw [e1]; simp
        have := hsw i j o oj (l2 ++ post) (hpre j hjp) ho e2 (hfree j (by simp [hjp]) (hpre j hjp)) (fun k hk => by
          rw [e1, List.append_assoc, List.pairwise_append] at hsort
          have h3 := (List.pairwise_cons.1 hsort.2.1).1
          have hk' : k ∈ l2 ++ i :: post := by
            rcases List.mem_append.1 hk with h | h
            · simp [h]
            · simp [h]
          have h4 := (List.pairwise_cons.1 hsort.2.1).2
          refine ⟨h3 k hk', fun e => ?_, hfree k (by
            rcases List.mem_append.1 hk with h | h
            · rw [e1]; simp [h]
            · simp [h])⟩
          subst e
          have h4 := List.pairwise_append.1 (show (l2 ++ k :: post).Pairwise (· < ·) from h4)
          rcases List.mem_append.1 hk with h | h
          · have := h4.2.2 k h k (by simp); omega
          · have := (List.pairwise_cons.1 h4.2.1).1 k h; omega)
        rw [List.filterMap_append, e3] at this
        exact this) hE
      refine wpOpIn_mono ?_ (el_head ho hs hE')
      rintro a' w' ⟨s1, hE1, hF⟩
      obtain ⟨θ', M', hs', hcomp⟩ := hF.comp
      refine ih _ s1 B S θ' M' w' a' hs' (by simpa using hsz) ?_ ?_ ?_ (fun s' a'' w'' hK hF' => hQ s' a'' w'' hK (hcomp _ _ _ hF'))
      · intro k ok hk hl e hek hbe
        have hmono : ∀ m, listed.getD m false = true → (listed.setIfInBounds i true).getD m false = true := fun m hm => by
          rw [Array.getD_eq_getD_getElem?] at hm ⊢
          rw [Array.getElem?_setIfInBounds]
          split
          · split <;> simp_all
          · exact hm
        by_cases hki : k = i
        · subst hki
          rw [ho] at hk; cases hk
          exact hmono _ (hafter e hek hbe)
        · have : listed.getD k false = true := by
            rw [Array.getD_eq_getD_getElem?] at hl ⊢
            rw [Array.getElem?_setIfInBounds, if_neg (Ne.symm hki)] at hl
            exact hl
          exact hmono _ (hcl k ok hk this e hek hbe)
      · rw [hset]
        rw [he] at hf
        simp only [List.length_append, List.length_cons] at hf ⊢
        omega
      · rw [hset, List.filterMap_append]
        exact hE1
def freeOk (ops : List Oper) (m : Nat) (i j : Nat) (ts : List Nat) : Bool := ops.zipIdx.all fun p => match p.1.dst with
  | some t => !ts.contains t || decide (p.2 < j) || (decide (p.2 < i) && m.testBit p.2)
  | none => true
def loadOf : Op → Option (Nat × Nat)
  | .load t (.tmp x) => some (t, x)
  | _ => none
def storeOf : Op → Option Nat
  | .store _ (.tmp x) _ => some x
  | _ => none
def pair3 (P : Program) (v q : List Nat) (ops tl : List Oper) (m : Nat) (i j : Nat) (oi oj : Oper) : Option (List Cf) :=
  if commB2 v ops oj oi = true then some []
  else if oj.apart ops.toArray oi = false then none
  else if (rop oj.op && oj.guard.isNone && oi.guard.isNone && isVq v q oi.op) = true then some []
  else if tl.all (tame v) = false then none
  else match storeOf oi.op, loadOf oj.op with
    | some x, _ => if (qop oj.op && !isV v oj.op && oi.guard.isNone && oi.dst.isNone && freeOk ops m i j (Cf.sto (oj.looksAt ops.toArray) x).temps) = true then some [.sto (oj.looksAt ops.toArray) x] else none
    | none, some (t, x) => if (oj.guard.isNone && (tyOf P t).agg == some false && lapp oi.op && oi.guard.isNone && freeOk ops m i j [x]) = true then some [.app [x]] else none
    | _, _ => none
def row3 (P : Program) (v q : List Nat) (ops tl : List Oper) (m i : Nat) (oi : Oper) : List (Oper × Nat) → Option (List Cf)
  | [] => some []
  | (oj, j) :: r => if m.testBit j = true then row3 P v q ops tl m i oi r else
    match pair3 P v q ops tl m i j oi oj, row3 P v q ops tl m i oi r with
    | some a, some b => some (a ++ b)
    | _, _ => none
def rows3 (P : Program) (v q : List Nat) (ops tl : List Oper) (b : Nat → Nat) : List (Oper × Nat) → Option (List Cf)
  | [] => some []
  | (oi, i) :: r => match row3 P v q ops tl (b i) i oi (ops.take i).zipIdx, rows3 P v q ops tl b r with
    | some a, some c => some (a ++ c)
    | _, _ => none
def chk3 (P : Program) (v q : List Nat) (ops : List Oper) (_ : List Cf) (eqv : Option (List Cf) → Bool) : Bool := masksGo ops [] fun l => maskOk ops (fun i => l.getD i 0) && eqv (rows3 P v q ops ops (fun i => l.getD i 0) ops.zipIdx)
def natsEq : List Nat → List Nat → Bool
  | [], [] => true
  | x :: r, y :: s => (x == y) && natsEq r s
  | _, _ => false
def Cf.beq' : Cf → Cf → Bool
  | .sto a x, .sto b y => natsEq a b && (x == y)
  | .app a, .app b => natsEq a b
  | _, _ => false
def cfsEq : List Cf → List Cf → Bool
  | [], [] => true
  | x :: r, y :: s => x.beq' y && cfsEq r s
  | _, _ => false
theorem natsEq_eq : ∀ {a b : List Nat}, natsEq a b = true → a = b
  | [], [], _ => rfl
  | x :: r, y :: s, h => by
    simp only [natsEq, Bool.and_eq_true, beq_iff_eq] at h
    rw [h.1, natsEq_eq h.2]
  | [], _ :: _, h => by cases h
  | _ :: _, [], h => by cases h
theorem Cf.beq_eq {a b : Cf} (h : a.beq' b = true) : a = b := by
  cases a <;> cases b <;> simp only [Cf.beq', Bool.and_eq_true, beq_iff_eq] at h
  · rw [natsEq_eq h.1, h.2]
  · cases h
  · cases h
  · rw [natsEq_eq h]
theorem cfsEq_eq : ∀ {a b : List Cf}, cfsEq a b = true → a = b
  | [], [], _ => rfl
  | x :: r, y :: s, h => by
    simp only [cfsEq, Bool.and_eq_true] at h
    rw [Cf.beq_eq h.1, cfsEq_eq h.2]
  | [], _ :: _, h => by cases h
  | _ :: _, [], h => by cases h
def chkAny3 (P : Program) (v q : List Nat) (ops : List Oper) (cfs : List Cf) : Bool := chk3 P v q ops cfs fun o => match o with | some l => cfsEq l cfs | none => false
theorem row3_spec {P : Program} {tl : List Oper} {v q : List Nat} {m i : Nat} {oi : Oper} : ∀ {l : List (Oper × Nat)} {c : List Cf}, row3 P v q ops tl m i oi l = some c → ∀ p ∈ l, m.testBit p.2 = false → ∃ c', pair3 P v q ops tl m i p.2 oi p.1 = some c' ∧ ∀ x ∈ c', x ∈ c
  | [], _, _, p, hp, _ => by cases hp
  | (oj, j) :: l, c, h, p, hp, ht => by
    simp only [row3] at h
    split at h
    · rename_i hj
      rcases List.mem_cons.1 hp with e | hp
      · subst e; rw [ht] at hj; cases hj
      · exact row3_spec h p hp ht
    · split at h
      · rename_i a b h1 h2
        cases h
        rcases List.mem_cons.1 hp with e | hp
        · subst e; exact ⟨a, h1, fun x hx => by simp [hx]⟩
        · obtain ⟨c', g1, g2⟩ := row3_spec h2 p hp ht
          exact ⟨c', g1, fun x hx => by simp [g2 x hx]⟩
      · cases h
theorem rows3_spec {P : Program} {tl : List Oper} {v q : List Nat} {b : Nat → Nat} : ∀ {l : List (Oper × Nat)} {c : List Cf}, rows3 P v q ops tl b l = some c → ∀ p ∈ l, ∃ c', row3 P v q ops tl (b p.2) p.2 p.1 (ops.take p.2).zipIdx = some c' ∧ ∀ x ∈ c', x ∈ c
  | [], _, _, p, hp => by cases hp
  | (oi, i) :: l, c, h, p, hp => by
    simp only [rows3] at h
    split at h
    · rename_i a d h1 h2
      cases h
      rcases List.mem_cons.1 hp with e | hp
      · subst e; exact ⟨a, h1, fun x hx => by simp [hx]⟩
      · obtain ⟨c', g1, g2⟩ := rows3_spec h2 p hp
        exact ⟨c', g1, fun x hx => by simp [g2 x hx]⟩
    · cases h
theorem freeOk_spec {m i j : Nat} {ts : List Nat} (h : freeOk ops m i j ts = true) {k : Nat} {o : Oper} (hk : ops[k]? = some o) {t : Nat} (ht : t ∈ ts) (hd : o.dst = some t) : k < j ∨ (k < i ∧ m.testBit k = true) := by
  unfold freeOk at h
  rw [List.all_eq_true] at h
  have := h (o, k) (List.mem_zipIdx_iff_getElem?.2 hk)
  simp only [hd, Bool.or_eq_true, Bool.not_eq_true', Bool.and_eq_true, decide_eq_true_eq] at this
  rcases this with (h1 | h1) | h1
  · have : ts.contains t = true := by simpa using ht
    rw [this] at h1; cases h1
  · exact .inl h1
  · exact .inr h1
theorem pair3_spec {tl : List Oper} {b : Nat → Nat} {cfs c : List Cf} {i j : Nat} {oi oj : Oper} {rest : List Nat} (hc : pair3 P r.v r.q ops tl (b i) i j oi oj = some c) (hsub : ∀ x ∈ c, x ∈ cfs) (hji : j < i) (hi : ops[i]? = some oi) (hj : ops[j]? = some oj) (hbit : (b i).testBit j = false)
    (hrest : ∀ k ∈ rest, j < k ∧ k ≠ i ∧ (k < i → (b i).testBit k = false)) (htl : ∀ k ∈ rest, ∀ o, ops[k]? = some o → o ∈ tl) : Steps P r N ops oj ∧ SwapAt P r N ops (fun f => ∀ x ∈ cfs, x.ok f = true) oj oi (rest.filterMap (ops[·]?)) := by
  unfold pair3 at hc
  split at hc
  · rename_i h
    have := comm2_spec (P := P) (r := r) (N := N) h
    exact ⟨this.1, swapAt_of this.2⟩
  · split at hc
    · cases hc
    · rename_i hap
      have hap : oj.apart ops.toArray oi = true := by simpa using hap
      split at hc
      · rename_i h
        simp only [Bool.and_eq_true, Option.isNone_iff_eq_none] at h
        obtain ⟨⟨⟨h1, h2⟩, h3⟩, h4⟩ := h
        unfold isVq at h4
        split at h4
        · rename_i f as ts hop
          simp only [Bool.and_eq_true] at h4
          exact ⟨steps_quiet (rop_q h1).1 (isV_no (rop_q h1).2.1), swapAt_of (swap_r_vq h1 h2 h3 hop h4.1 h4.2 hap)⟩
        · cases h4
      · split at hc
        · cases hc
        · rename_i htm
          have htm : ∀ o ∈ tl, tame r.v o = true := List.all_eq_true.1 (by simpa using htm)
          have htame : ∀ o ∈ rest.filterMap (ops[·]?), tame r.v o = true := fun o ho => by
            obtain ⟨k, hkr, hk⟩ := List.mem_filterMap.1 ho
            exact htm o (htl k hkr o hk)
          have free : ∀ {ts : List Nat}, freeOk ops (b i) i j ts = true → ∀ t ∈ ts, oj.dst ≠ some t ∧ oi.dst ≠ some t ∧ ∀ o ∈ rest.filterMap (ops[·]?), o.dst ≠ some t := fun hfr t ht => by
            refine ⟨fun e => ?_, fun e => ?_, fun o ho e => ?_⟩
            · rcases freeOk_spec hfr hj ht e with h | h
              · omega
              · rw [hbit] at h; cases h.2
            · rcases freeOk_spec hfr hi ht e with h | h <;> omega
            · obtain ⟨k, hk, hko⟩ := List.mem_filterMap.1 ho
              obtain ⟨g1, g2, g3⟩ := hrest k hk
              rcases freeOk_spec hfr hko ht e with h | h
              · omega
              · rw [g3 h.1] at h; cases h.2
          split at hc
          · rename_i x y hst
            split at hc
            · rename_i h
              cases hc
              simp only [Bool.and_eq_true, Bool.not_eq_true', Option.isNone_iff_eq_none] at h
              obtain ⟨⟨⟨⟨h1, h2⟩, h3⟩, h4⟩, h5⟩ := h
              unfold storeOf at hst
              split at hst
              · rename_i t x' v' hop
                cases hst
                refine ⟨steps_quiet h1 h2, swap_q_sto h1 h2 hop h3 h4 hap htame (fun t ht => ?_) (fun f hf => hf _ (hsub _ (by simp)))⟩
                exact ⟨(free h5 t ht).1, (free h5 t ht).2.2⟩
              · cases hst
            · cases hc
          · rename_i t x hst hld
            split at hc
            · rename_i h
              cases hc
              simp only [Bool.and_eq_true, Option.isNone_iff_eq_none, beq_iff_eq] at h
              obtain ⟨⟨⟨⟨h1, h2⟩, h3⟩, h4⟩, h5⟩ := h
              unfold loadOf at hld
              split at hld
              · rename_i t' x' hop
                cases hld
                refine ⟨steps_quiet (by rw [hop]; rfl) (by rw [hop]; rfl), swap_lsc_app hop h1 h2 h3 h4 hap htame (fun t ht => free h5 t ht) (fun f hf => hf _ (hsub _ (by simp)))⟩
              · cases hld
            · cases hc
          · cases hc
theorem awp_any3 {id : Nat} {st : St} {Q : AEx → St → Prop} (cfs : List Cf) (hm : P.follows .mixedOrders = true) (hchk : chkAny3 P r.v r.q ops cfs = true) (h : EL P r N ops ops st (fun s => (cfs.all fun c => c.ok s.t) = true ∧ Q .normal s)) : AWP P r N (.region id ops.toArray true) st Q := by
  obtain ⟨l, hl⟩ := masksGo_k hchk
  rw [Bool.and_eq_true] at hl
  obtain ⟨hl1, hl2⟩ := hl
  clear hchk
  have hrows : rows3 P r.v r.q ops ops (fun i => l.getD i 0) ops.zipIdx = some cfs := by
    revert hl2
    cases rows3 P r.v r.q ops ops (fun i => l.getD i 0) ops.zipIdx with
    | none => intro h; cases h
    | some c => intro h; rw [cfsEq_eq h]
  generalize hbb : (fun i => l.getD i 0) = bb at *
  clear hl2
  intro B S θ M w a hs
  refine wpIn_region_any hm ?_
  have hrem : remI ops.length (Array.replicate ops.length false) = List.range ops.length := remI_start _
  refine any_text3 (D := fun f => ∀ x ∈ cfs, x.ok f = true) (K := fun s => (cfs.all fun c => c.ok s.t) = true ∧ Q .normal s) (maskOk_spec hl1) (fun i j oi oj rest hji hi hj hbit hrest => ?_) (fun s' hs' => List.all_eq_true.1 hs'.1) ops.toArray.size (Array.replicate ops.toArray.size false) st B S θ M _ a (hs.drawn _) (by simp) (fun k o hk hL => ?_) ?_ ?_ (fun s' a' w' hk hF => ⟨.normal, s', rfl, hk.2, ?_⟩)
  · obtain ⟨c1, g1, g2⟩ := rows3_spec hrows (oi, i) (List.mem_zipIdx_iff_getElem?.2 hi)
    obtain ⟨c2, g3, g4⟩ := row3_spec g1 (oj, j) (List.mem_zipIdx_iff_getElem?.2 (by rw [List.getElem?_take, if_pos hji]; exact hj)) hbit
    exact pair3_spec (b := bb) g3 (fun x hx => g2 x (g4 x hx)) hji hi hj hbit hrest (fun k _ o ho => List.mem_of_getElem? ho)
  · simp only [Array.getD_eq_getD_getElem?, Array.getElem?_replicate] at hL
    split at hL <;> simp at hL
  · simp only [List.size_toArray]; rw [hrem]; simp
  · simp only [List.size_toArray]; rw [hrem, range_filterMap]; exact h
  · obtain ⟨⟨θ', M', h1, h2, h3, h4⟩, h5⟩ := hF
    exact ⟨⟨θ', M', h1, ⟨h2.size, h2.same, h2.os, h2.tape, h2.output⟩, h3, h4⟩, h5⟩
end
end AM
end
/- The abstract machine, part 37: states whose objects are not all written out. -/
section
namespace AM
open Go
theorem upd_at {α : Type} (f : Nat → α) (d : Nat) (x : α) (i : Nat) : upd f d x i = if i = d then x else f i := rfl
theorem upd_ne {α : Type} {f : Nat → α} {d : Nat} {x : α} {i : Nat} (h : i ≠ d) : upd f d x i = f i := if_neg h
theorem upd_eq {α : Type} {f : Nat → α} {d : Nat} {x : α} : upd f d x d = x := if_pos rfl
theorem upd_upd {α : Type} {f : Nat → α} {d : Nat} {x y : α} : upd (upd f d x) d y = upd f d y := by
  funext i; unfold upd; by_cases h : i = d <;> simp [h]
def livesT (os : Nat → Option AO) : List (Nat × AV) → Prop
  | [] => True
  | (_, x) :: l => x.lives os ∧ livesT os l
theorem livesT_nil {os : Nat → Option AO} : livesT os [] = True := rfl
theorem livesT_cons {os : Nat → Option AO} {j : Nat} {x : AV} {l : List (Nat × AV)} : livesT os ((j, x) :: l) = (x.lives os ∧ livesT os l) := rfl
theorem lives_p_eq {os : Nat → Option AO} {x : PV} : (AV.p x).lives os = True := eq_true (AV.lives_p os x)
theorem lives_undef_eq {os : Nat → Option AO} : AV.undef.lives os = True := eq_true (AV.lives_undef os)
theorem lives_one {os : Nat → Option AO} {x : AV} {n : Nat} (h : ∀ m, x.clean m = (n != m)) : x.lives os = ((os n).isSome = true) := by
  apply propext
  constructor
  · intro hx; exact hx n (by rw [h]; simp)
  · intro hx m hm; rw [h] at hm; simp only [bne_eq_false_iff_eq] at hm; subst hm; exact hx
theorem lives_ptr_eq {os : Nat → Option AO} {n off : Nat} : (AV.ptr n off).lives os = ((os n).isSome = true) := lives_one fun _ => rfl
theorem lives_eptr_eq {os : Nat → Option AO} {n k i off : Nat} : (AV.eptr n k i off).lives os = ((os n).isSome = true) := lives_one fun _ => rfl
theorem lives_own_eq {os : Nat → Option AO} {n len : Nat} : (AV.own n len).lives os = ((os n).isSome = true) := lives_one fun _ => rfl
theorem lives_csl_eq {os : Nat → Option AO} {n off k len : Nat} : (AV.csl n off k len).lives os = ((os n).isSome = true) := lives_one fun _ => rfl
theorem lives_yld_eq {os : Nat → Option AO} {n : Nat} : (AV.yld n).lives os = ((os n).isSome = true) := lives_one fun _ => rfl
theorem lives_mp_eq {os : Nat → Option AO} {n : Nat} : (AV.mp n).lives os = ((os n).isSome = true) := lives_one fun _ => rfl
def livesL (os : Nat → Option AO) : List AV → Prop
  | [] => True
  | x :: l => x.lives os ∧ livesL os l
theorem livesL_nil {os : Nat → Option AO} : livesL os [] = True := rfl
theorem livesL_cons {os : Nat → Option AO} {x : AV} {l : List AV} : livesL os (x :: l) = (x.lives os ∧ livesL os l) := rfl
theorem livesL_iff {os : Nat → Option AO} {l : List AV} : livesL os l ↔ ∀ (i : Nat) (x : AV), l[i]? = some x → x.lives os := by
  induction l with
  | nil => simp [livesL]
  | cons y r ih =>
    rw [livesL_cons, ih]
    constructor
    · rintro ⟨h1, h2⟩ i x hx
      cases i with
      | zero => simp at hx; exact hx ▸ h1
      | succ i => exact h2 i x (by simpa using hx)
    · intro h
      exact ⟨h 0 y (by simp), fun i x hx => h (i + 1) x (by simpa using hx)⟩
theorem lives_agg_eq {os : Nat → Option AO} {cs : List AV} : (AV.agg cs).lives os = livesL os cs := propext (AV.lives_agg.trans livesL_iff.symm)
theorem lives_tup_eq {os : Nat → Option AO} {cs : List AV} : (AV.tup cs).lives os = livesL os cs := propext (AV.lives_tup.trans livesL_iff.symm)
theorem lives_fn_eq {os : Nat → Option AO} {f : Fn} {fs cs : List AV} : (AV.fn f fs cs).lives os = (livesL os fs ∧ livesL os cs) := by
  apply propext
  constructor
  · intro h; exact ⟨livesL_iff.2 (lives_fn_parts h).1, livesL_iff.2 (lives_fn_parts h).2⟩
  · rintro ⟨h1, h2⟩ n hn
    simp only [AV.clean, Bool.and_eq_false_iff] at hn
    rcases hn with hn | hn
    · exact AV.lives_cells.1 (livesL_iff.1 h1) n hn
    · exact AV.lives_cells.1 (livesL_iff.1 h2) n hn
theorem livesT_get {os : Nat → Option AO} {l : List (Nat × AV)} (h : livesT os l) (i : Nat) : (T l i).lives os := by
  induction l with
  | nil => exact AV.lives_undef _
  | cons p r ih =>
    obtain ⟨j, x⟩ := p
    rw [livesT_cons] at h
    rw [T_cons]
    split
    · exact h.1
    · exact ih h.2
theorem leT_get {t : Nat → AV} {l : List (Nat × AV)} (h : leT t l) (i : Nat) : T l i = .undef ∨ T l i = t i := by
  induction l with
  | nil => exact .inl rfl
  | cons p r ih =>
    obtain ⟨j, x⟩ := p
    rw [leT_cons] at h
    rw [T_cons]
    split
    · rename_i e; subst e; exact .inr h.1.symm
    · exact ih h.2
theorem closed_upd {os : Nat → Option AO} {n : Nat} {o : AO} (h : (Hp os).closed) (ho : o.lives (upd os n (some o))) : (Hp (upd os n (some o))).closed := by
  have hm : ∀ m, (os m).isSome = true → (upd os n (some o) m).isSome = true := fun m hm => by
    unfold upd; split
    · rfl
    · exact hm
  refine ⟨fun _ => AV.lives_undef _, fun m o' ho' => ?_⟩
  have ho' : upd os n (some o) m = some o' := ho'
  unfold upd at ho'
  split at ho'
  · cases ho'; exact ho
  · exact AO.lives_mono hm (h.2 m o' ho')
theorem lives_cells_eq {os : Nat → Option AO} {cs : List AV} : (AO.cells cs).lives os = livesL os cs := propext (AO.lives_cells.trans livesL_iff.symm)
theorem lives_arr_eq {os : Nat → Option AO} {k : Nat} {es : List (List PV)} : (AO.arr k es).lives os = True := eq_true (AO.lives_arr os k es)
theorem lives_obj_eq {os : Nat → Option AO} {X : Obj → Prop} : (AO.obj X).lives os = True := eq_true (AO.lives_obj os X)
theorem lives_loop_eq {os : Nat → Option AO} {k : LoopK} {tm : List (Nat × AV)} : (AO.loop k tm).lives os = livesT os tm := by
  apply propext
  rw [AO.lives_loop]
  induction tm with
  | nil => simp [livesT]
  | cons p r ih =>
    obtain ⟨j, x⟩ := p
    rw [livesT_cons, ← ih]
    constructor
    · intro h; exact ⟨h 0 (j, x) rfl, fun i q hq => h (i + 1) q (by simpa using hq)⟩
    · rintro ⟨h1, h2⟩ i q hq
      cases i with
      | zero => simp at hq; subst hq; exact h1
      | succ i => exact h2 i q (by simpa using hq)
def Sub (os f : Nat → Option AO) : Prop := ∀ n, os n = none ∨ os n = f n
theorem Sub.refl (os : Nat → Option AO) : Sub os os := fun _ => .inr rfl
theorem Sub.skip {os f : Nat → Option AO} {d : Nat} {x : Option AO} (hd : os d = none) (h : Sub os f) : Sub os (upd f d x) := fun n => by
  by_cases e : n = d
  · subst e; exact .inl hd
  · rw [upd_other e]; exact h n
theorem Sub.both {os f : Nat → Option AO} {d : Nat} {x : Option AO} (h : Sub os f) : Sub (upd os d x) (upd f d x) := fun n => by
  by_cases e : n = d
  · subst e; exact .inr (by rw [upd_same, upd_same])
  · rw [upd_other e, upd_other e]; exact h n
theorem Sub.get {os f : Nat → Option AO} {d : Nat} {o : AO} (ho : f d = some o) (h : ∀ n, n ≠ d → os n = none ∨ os n = f n) : Sub (upd os d (some o)) f := fun n => by
  by_cases e : n = d
  · subst e; exact .inr (by rw [upd_same, ho])
  · rw [upd_other e]; exact h n e
theorem le_os {l1 : List (Nat × AV)} {os : Nat → Option AO} {s : St} (h1 : leT s.t l1) (h2 : Sub os s.o) (h3 : livesT os l1) (h4 : (Hp os).closed) : St.le ⟨T l1, os⟩ s :=
  ⟨fun i => leT_get h1 i, h2, ⟨fun i => livesT_get h3 i, h4.2⟩⟩
section
variable {P : Program} {r : RB} {N : Nat} {dst : Option Nat} {K : St → Prop}
theorem EV_intro2 {bd : Nat} {fv : AV} {args : List AV} {t : Nat → AV} {os : Nat → Option AO} {R : AV → (Nat → Option AO) → Prop} (l' : List (Nat × AV)) (hd : dstOk N dst = true) (hc : VCall P bd fv args os R) (hbd : ∀ n, bd ≤ n → os n = none) (hb : r.b ≤ bd)
    (h : ∀ res os', R res os' → (Hp os').closed → res.lives os' → leT t l' ∧ livesT os' l' ∧ K (St.put ⟨T l', os'⟩ dst res)) : EVk P r N fv args dst ⟨t, os⟩ K :=
  ⟨hd, _, bd, R, hc, hbd, hb, fun _ h => h.elim, fun res os' h1 h2 h3 => by
    obtain ⟨h4, h5, hK⟩ := h res os' h1 h2 h3
    exact ⟨T l', fun i => (leT_get h4 i).imp id (fun e => ⟨e, fun _ hm => hm.elim⟩), fun i => livesT_get h5 i, hK⟩⟩
def staysT (mv : Nat → Prop) : List (Nat × AV) → Prop
  | [] => True
  | (_, x) :: l => x.stays mv ∧ staysT mv l
theorem staysT_get {mv : Nat → Prop} {l : List (Nat × AV)} (h : staysT mv l) (i : Nat) : (T l i).stays mv := by
  induction l with
  | nil => exact fun _ _ => rfl
  | cons p r ih =>
    obtain ⟨j, x⟩ := p
    rw [T_cons]
    split
    · exact h.1
    · exact ih h.2
theorem stays_p {mv : Nat → Prop} {x : PV} : (AV.p x).stays mv := fun _ _ => rfl
theorem stays_ptr {mv : Nat → Prop} {n off : Nat} (h : ¬ mv n) : (AV.ptr n off).stays mv := fun m hm => by
  simp only [AV.clean, bne_iff_ne]; intro e; exact h (e ▸ hm)
theorem EV_intro3 {mv : Nat → Prop} {bd : Nat} {fv : AV} {args : List AV} {t : Nat → AV} {os : Nat → Option AO} {R : AV → (Nat → Option AO) → Prop} (l' : List (Nat × AV)) (hd : dstOk N dst = true) (hc : VCallM P mv bd fv args os R) (hmv : ∀ n, mv n → r.mv n ∨ r.b ≤ n) (hst : staysT mv l') (hbd : ∀ n, bd ≤ n → os n = none) (hb : r.b ≤ bd)
    (h : ∀ res os', R res os' → (Hp os').closed → res.lives os' → leT t l' ∧ livesT os' l' ∧ K (St.put ⟨T l', os'⟩ dst res)) : EVk P r N fv args dst ⟨t, os⟩ K :=
  ⟨hd, mv, bd, R, hc, hbd, hb, hmv, fun res os' h1 h2 h3 => by
    obtain ⟨h4, h5, hK⟩ := h res os' h1 h2 h3
    refine ⟨T l', fun i => ?_, fun i => livesT_get h5 i, hK⟩
    rcases leT_get h4 i with e | e
    · exact .inl e
    · exact .inr ⟨e, by have := staysT_get hst i; rw [e] at this; exact this⟩⟩
theorem awp_loop_os {α : Type} {c : Code} {s : St} {Q : AEx → St → Prop} (I : α → St) (μ : α → Nat) (ok : α → Prop) (x0 : α) (h0 : ok x0) (hle : (I x0).le s)
    (hstep : ∀ x, ok x → ∀ L : St → Prop, (∀ y s', ok y → μ y < μ x → (I y).le s' → L s') → AWP P r N c (I x) (thenQ L Q)) : AWP P r N (.loop c) s Q := awp_loop_k I μ ok x0 h0 hle hstep
theorem RetS_normal {rs : List ResultVar} {R : AV → (Nat → Option AO) → Prop} {s : St} : RetS P rs R .normal s = RetV P rs R s := rfl
theorem RetS_ret {rs : List ResultVar} {R : AV → (Nat → Option AO) → Prop} {s : St} : RetS P rs R .ret s = RetV P rs R s := rfl
theorem retV_mk {rs : List ResultVar} {R : AV → (Nat → Option AO) → Prop} {s : St} {res : AV} (os' : Nat → Option AO) (h1 : (resRaws P s rs).map resOf = some res) (h2 : Sub os' s.o) (h3 : (Hp os').closed) (h4 : res.lives os') (h5 : R res os') : RetV P rs R s := ⟨res, os', h1, h2, h3, h4, h5⟩
theorem resRaws_1 {i : Nat} {s : St} : (resRaws P s [.tmp i]).map resOf = some (s.t i) := rfl
theorem resRaws_0 {s : St} : (resRaws P s []).map resOf = some (.tup []) := rfl
end
end AM
end
/- The abstract machine, part 40: an element of an array's value; functions as cells; a nil slice compared. -/
section
namespace AM
open Go
section
variable {P : Program} {r : RB} {N : Nat} {s : St} {K : St → Prop} {dst : Option Nat} {ty : TypeId} {pos : String} {after : Array Edge} {g : Option (Nat × Bool)}
theorem EO_index {t : TypeId} {x i : Operand} : EO P r N ⟨dst, .index t x i, ty, pos, after, g⟩ s K = EOp r.b N dst s K (fIdx (fun e => (tyOf P e).sz) (fun e => (tyOf P e).agg) (ev s.t x) (tyOf P t).k (ev s.t i)) := by
  refine EO_eff rfl rfl ?_
  simp only [eff]
  cases (tyOf P t).k with
  | arr len e =>
    cases hx : ev s.t x with
    | agg cs =>
      cases hi : ev s.t i with
      | p q => cases q with
        | val v => cases v with
          | int k n => simp only [fIdx]; cases (tyOf P e).agg <;> rfl
          | _ => rfl
        | _ => rfl
      | _ => rfl
    | _ => cases hi : ev s.t i with
      | p q => cases q with
        | val v => cases v with
          | int k n => simp only [fIdx]
          | _ => rfl
        | _ => rfl
      | _ => rfl
  | _ => cases ev s.t i <;> first | rfl | (rename_i q; cases q <;> first | rfl | (rename_i v; cases v <;> rfl))
theorem viewC_fn {os : Nat → Option AO} {f : Fn} : viewC os (.fn f [] []) = some (.fn f [] []) := rfl
def slen : AV → Option Nat
  | .p (.sl l) => some l.length
  | .own _ len => some len
  | _ => none
theorem astep_nil {st : St} {o : Oper} {t u : TypeId} {e : TypeId} {x : Operand} {len : Nat} (ho : o.op = .binOp .eql t x (.const (.slice none 0 0)) u) (hd : ∀ k, o.dst = some k → k < N) (ht : (tyOf P t).k = .sl e) (hx : slen (ev st.t x) = some len) (h : ∀ b : Bool, (b = true → len = 0) → K (st.put o.dst (bl b))) : AStep P r N o st K := by
  intro B S θ M w a Q hs
  refine ⟨fun _ _ => trivial, ?_⟩
  rw [Oper.semAt_eq _ _ _ (by rw [ho]; intro c h; cases h)]
  have hv : ∃ a' l c, a.eval x = .slice a' l c ∧ (a'.isNone = true → len = 0) := by
    have hr := ev_rel hs x
    revert hx hr
    cases ev st.t x with
    | p y => cases y with
      | sl l =>
        intro hx hr
        cases hr with
        | p _ _ hp =>
          simp only [slen, Option.some.injEq] at hx
          generalize a.eval x = v at hp
          cases hp with
          | nil => exact ⟨none, 0, 0, rfl, fun _ => hx.symm⟩
          | sl _ b o' c k cv _ _ _ _ => exact ⟨_, _, _, rfl, fun h => by cases h⟩
      | _ => intro hx; simp [slen] at hx
    | own n l =>
      intro hx hr
      simp only [slen, Option.some.injEq] at hx
      generalize a.eval x = v at hr
      cases hr with
      | own _ _ _ _ => exact ⟨_, _, _, rfl, fun h => by cases h⟩
      | ownNil _ _ => exact ⟨none, 0, 0, rfl, fun _ => hx.symm⟩
    | _ => intro hx; simp [slen] at hx
  obtain ⟨a', l, c, hv, hl⟩ := hv
  have hrun : (execOp a.eval o).run P w = .ok (.value (.bool a'.isNone)) w := by
    simp only [execOp, ho, hv]
    refine run_v ?_
    simp [Act.eval, eqGuard, binOp, run_equal_slice_nil w t e a' l c (tyOf_sl ht)]
  rw [hrun]
  exact ⟨_, h a'.isNone hl, (Adv.put hs hd (.p _ _ (.val _ rfl)) (AV.lives_p _ _)).toM, by cases o.dst <;> rfl⟩
theorem awp_move_nil {st : St} {Q : AEx → St → Prop} {id d0 d1 i : Nat} {t u e ty0 ty1 : TypeId} {pos0 pos1 : String} {af0 af1 : Array Edge} {len : Nat} (h0 : d0 < N) (h1 : d1 < N) (ht : (tyOf P t).k = .sl e) (hx : slen (st.t i) = some len)
    (h : ∀ b : Bool, (b = true → len = 0) → Q .normal ((st.put (some d0) (st.t i)).put (some d1) (bl b))) :
    AWP P r N (.region id [(⟨some d0, .move (.tmp i), ty0, pos0, af0, none⟩ : Oper), ⟨some d1, .binOp .eql t (.tmp d0) (.const (.slice none 0 0)) u, ty1, pos1, af1, none⟩].toArray false) st Q := by
  refine awp_region (AL.step (EO_sound ?_))
  rw [EO_move]
  refine ⟨by simpa using h0, AL.step (astep_nil rfl (fun k hk => by cases hk; exact h1) ht (x := .tmp d0) (len := len) ?_ fun b hb => AL.nil (h b hb))⟩
  show slen ((st.put (some d0) (st.t i)).t d0) = some len
  have : (st.put (some d0) (st.t i)).t d0 = st.t i := by simp [St.put, upd]
  rw [this]; exact hx
def fSlA (esz : Nat → Nat) (ea : Nat → Option Bool) (len e : Nat) : AV → Option Int → Option Int → Option Eff
  | .ptr n off, some l, some h => if 0 ≤ l ∧ l ≤ h ∧ h ≤ len ∧ (ea e).isSome ∧ l < len then some (.pure (.csl n (off + l.toNat * esz e) (esz e) (h - l).toNat)) else none
  | _, _, _ => none
theorem EO_sliceA {t : TypeId} {x : Operand} {lo hi : Option Operand} {len e : Nat} (hk : (tyOf P t).k = .arr len e) : EO P r N ⟨dst, .slice t x lo hi none, ty, pos, after, g⟩ s K = EOp r.b N dst s K (fSlA (fun e => (tyOf P e).sz) (fun e => (tyOf P e).agg) len e (ev s.t x) (bound? (ev s.t) 0 lo) (bound? (ev s.t) len hi)) := by
  refine EO_eff rfl rfl ?_
  simp only [eff, hk]
  cases ev s.t x <;> cases bound? (ev s.t) 0 lo <;> cases bound? (ev s.t) len hi <;> rfl
theorem bound_none {ρ : Operand → AV} {d : Nat} : bound? ρ d none = some (d : Int) := rfl
def bnd1 : AV → Option Int
  | .p (.val (.int .i64 n)) => some n
  | _ => none
theorem bound_some {ρ : Operand → AV} {d : Nat} {x : Operand} : bound? ρ d (some x) = bnd1 (ρ x) := rfl
theorem bnd1_int {n : Int} : bnd1 (.p (.val (.int .i64 n))) = some n := rfl
theorem fSlA_ptr {esz : Nat → Nat} {ea : Nat → Option Bool} {len e n off : Nat} {l h : Int} : fSlA esz ea len e (.ptr n off) (some l) (some h) = if 0 ≤ l ∧ l ≤ h ∧ h ≤ len ∧ (ea e).isSome ∧ l < len then some (.pure (.csl n (off + l.toNat * esz e) (esz e) (h - l).toNat)) else none := rfl
theorem viewC_csl {os : Nat → Option AO} {n off k len : Nat} : viewC os (.csl n off k len) = (elems? os (.csl n off k len)).map fun es => .p (.sl es) := rfl
theorem pvs_ints : ∀ l : List Int, pvs? (l.map i64) = some (l.map fun n => iv n)
  | [] => rfl
  | x :: l => by show (match (i64 x).pv?, pvs? (l.map i64) with | some y, some ys => some (y :: ys) | _, _ => none) = _; rw [pvs_ints l]; rfl
theorem chunks_ints : ∀ l : List Int, chunks 1 l.length (l.map fun n => iv n) = l.map fun n => [iv n]
  | [] => rfl
  | x :: l => by show [iv x] :: chunks 1 l.length (l.map fun n => iv n) = _; rw [chunks_ints l]; rfl
theorem elems_ints {os : Nat → Option AO} {n len : Nat} {l : List Int} (h : os n = some (.cells (l.map i64))) (hl : len ≤ l.length) : elems? os (.csl n 0 1 len) = some ((l.take len).map fun n => [iv n]) := by
  unfold elems?
  simp only [h]
  rw [if_pos (by simp; omega)]
  rw [List.drop_zero, Nat.mul_one, ← List.map_take, pvs_ints, Option.map_some]
  have := chunks_ints (l.take len)
  rw [List.length_take, Nat.min_eq_left hl] at this
  rw [this]
def fMk (k by8 : Nat) (z : List PV) (d : Nat) : AV → AV → Option Eff
  | .p (.val (.int .i64 n)), .p (.val (.int .i64 m)) => if n = m ∧ 0 ≤ n ∧ n ≤ 4611686018427387904 ∧ by8 * n ≤ 281474976710656 then some (.new (.arr k (List.replicate n.toNat z)) (.own d n.toNat)) else none
  | _, _ => none
theorem EO_mk {t e : TypeId} {l c : Operand} {d k by8 : Nat} {z : List Value} (hk : (tyOf P t).k = .sl e) (h1 : (tyOf P e).sz = k) (h2 : (tyOf P e).bytes = by8) (h3 : (tyOf P e).zero = z) (h4 : z.all Value.oneCell' = true) (h5 : k = z.length) (h6 : 0 < k) (h7 : (tyOf P e).agg.isSome = true) :
    EO P r N ⟨some d, .makeSlice t l c, ty, pos, after, g⟩ s K = EOp r.b N (some d) s K (fMk k by8 (z.map .val) (r.b + d) (ev s.t l) (ev s.t c)) := by
  refine EO_eff rfl rfl ?_
  have e5 : (k = z.length) = True := eq_true h5
  have e6 : (0 < k) = True := eq_true h6
  simp only [eff, hk]
  cases ev s.t l with
  | p q => cases q with
    | val v => cases v with
      | int kd n => cases kd <;> (cases ev s.t c with
        | p q' => cases q' with
          | val v' => cases v' with
            | int kd' m => cases kd' <;> simp only [fMk, h1, h2, h3, h4, h7, e5, e6, and_true, Option.getD_some]
            | _ => rfl
          | _ => rfl
        | _ => rfl)
      | _ => rfl
    | _ => rfl
  | _ => rfl
theorem fMk_int {k by8 d : Nat} {z : List PV} {n m : Int} : fMk k by8 z d (.p (.val (.int .i64 n))) (.p (.val (.int .i64 m))) = if n = m ∧ 0 ≤ n ∧ n ≤ 4611686018427387904 ∧ by8 * n ≤ 281474976710656 then some (.new (.arr k (List.replicate n.toNat z)) (.own d n.toNat)) else none := rfl
end
end AM
end
/- The abstract machine, part 41: ranges over functions: their parts; a round's end. -/
section
namespace AM
open Go
def rangeOf : Code → Option (Code × Code)
  | .seq a b => match rangeOf a with | some x => some x | none => rangeOf b
  | .block _ c => rangeOf c
  | .loop c => rangeOf c
  | .rangeFunc _ _ a b => some (a, b)
  | _ => none
theorem RoundQ_normal {nl : Nat} {k : LoopK} {tm : List (Nat × AV)} {R : AV → (Nat → Option AO) → Prop} {s : St} : RoundQ nl k tm R .normal s = RoundV nl k tm R none s := rfl
theorem RoundQ_ret {nl : Nat} {k : LoopK} {tm : List (Nat × AV)} {R : AV → (Nat → Option AO) → Prop} {s : St} : RoundQ nl k tm R .ret s = RoundV nl k tm R (some .ret) s := rfl
theorem round_mk {nl : Nat} {k : LoopK} {tm : List (Nat × AV)} {R : AV → (Nat → Option AO) → Prop} {jump : Option Code} {s : St} (os' : Nat → Option AO) (h1 : s.o nl = some (.loop { k with state := .busy } tm)) (h2 : Sub os' (upd s.o nl (some (.loop { k with state := if jump.isNone then .ready else .done, pending := jump } tm)))) (h3 : (Hp os').closed) (h4 : R (bl jump.isNone) os') : RoundV nl k tm R jump s := ⟨h1, os', h2, h3, h4⟩
end AM
end
/- The abstract machine, part 26: a nil slice is taken for one's own. -/
section
namespace AM
open Go
theorem rel_nilslice {θ : Nat → Loc} {M : Nat → Prop} {w : World} {v : Value} (h : ARel θ M w (.p (.val (.slice none 0 0))) v) : v = .slice none 0 0 := by
  cases h with
  | p _ _ h => cases h with
    | val v _ => rfl
theorem awp_adopt {P : Program} {r : RB} {N : Nat} {c : Code} {s : St} {Q : AEx → St → Prop} (n k i : Nat) (hn4 : r.b ≤ n) (hi : s.t i = .p (.val (.slice none 0 0))) (hfree : s.o n = none)
    (h : AWP P r N c ⟨upd s.t i (.own n 0), upd s.o n (some (.arr k []))⟩ Q) : AWP P r N c s Q := by
  intro B S θ M w a hs
  have hS := hs.new (d := n) hfree (w' := w) (l := ⟨0, 0, true⟩) (o := .arr k []) (Nat.le_refl _) (fun _ _ => rfl) (fun e => by cases e)
    ⟨fun i e he => by simp at he, .inl ⟨rfl, rfl⟩⟩ (AO.lives_arr _ _ _)
  have hv : a.tmps.getD i undef = .slice none 0 0 := rel_nilslice (hi ▸ hs.tm i)
  have hS2 : SRel N B S (updL θ n ⟨0, 0, true⟩) (fun b => M b ∨ ((true : Bool) = false ∧ b = 0)) w ⟨upd s.t i (.own n 0), upd s.o n (some (.arr k []))⟩ a := by
    refine ⟨hS.size, fun j => ?_, hS.ob, hS.lv, hS.inj, hS.base, hS.mlt, ⟨fun j => ?_, hS.cl.2⟩⟩
    · show ARel _ _ _ (upd s.t i (.own n 0) j) _
      by_cases e : j = i
      · subst e
        rw [upd_same, hv]
        exact .ownNil n (by simp)
      · rw [upd_other e]; exact hS.tm j
    · show (upd s.t i (.own n 0) j).lives _
      by_cases e : j = i
      · subst e
        rw [upd_same]
        intro m hm
        simp only [AV.clean, bne_eq_false_iff_eq] at hm
        subst hm
        show (upd s.o n (some (.arr k [])) n).isSome = true
        simp
      · rw [upd_other e]; exact hS.cl.1 j
  have := h B S _ _ w a hS2
  refine wpIn_mono this ?_
  rintro e a' w' ⟨ae, st', h1, h2, ⟨⟨θ', M', h3, h4, h5, h6⟩, h7⟩⟩
  exact ⟨ae, st', h1, h2, ⟨⟨θ', M', h3, h4, fun m hm hv => (h5 m hm hv).trans (updL_other (by omega)), fun b hb hm => h6 b hb (.inl hm)⟩, h7⟩⟩
theorem awp_adopt' {P : Program} {r : RB} {N : Nat} {c : Code} {l : List (Nat × AV)} {m : List (Nat × AO)} {Q : AEx → St → Prop} (n k i : Nat) (hn4 : r.b ≤ n) (hi : T l i = .p (.val (.slice none 0 0))) (hfree : O m n = none)
    (h : AWP P r N c ⟨T ((i, .own n 0) :: l), O ((n, .arr k []) :: m)⟩ Q) : AWP P r N c ⟨T l, O m⟩ Q := awp_adopt n k i hn4 hi hfree h
end AM
namespace AM
open Go
theorem awp_adoptC {P : Program} {r : RB} {N : Nat} {c : Code} {s : St} {Q : AEx → St → Prop} (n k m off : Nat) {cs : List AV} (hn4 : r.b ≤ n) (hm : s.o m = some (.cells cs)) (hi : cs[off]? = some (.p (.val (.slice none 0 0)))) (hfree : s.o n = none)
    (h : AWP P r N c ⟨s.t, upd (upd s.o n (some (.arr k []))) m (some (.cells (cs.set off (.own n 0))))⟩ Q) : AWP P r N c s Q := by
  intro B S θ M w a hs
  have hmn : m ≠ n := fun e => by rw [e, hfree] at hm; cases hm
  have hS := hs.new (d := n) hfree (w' := w) (l := ⟨0, 0, true⟩) (o := .arr k []) (Nat.le_refl _) (fun _ _ => rfl) (fun e => by cases e)
    ⟨fun i e he => by simp at he, .inl ⟨rfl, rfl⟩⟩ (AO.lives_arr _ _ _)
  have hm1 : (s.setO n (.arr k [])).o m = some (.cells cs) := by show upd s.o n _ m = _; rw [upd_other hmn]; exact hm
  have hsome : ∀ j, (upd (upd s.o n (some (.arr k []))) m (some (.cells (cs.set off (.own n 0)))) j).isSome = ((s.setO n (.arr k [])).o j).isSome := fun j => by
    by_cases e : j = m
    · subst e; rw [upd_same, hm1]; rfl
    · rw [upd_other e]; rfl
  have hS2 : SRel N B S (updL θ n ⟨0, 0, true⟩) (fun b => M b ∨ ((true : Bool) = false ∧ b = 0)) w ⟨s.t, upd (upd s.o n (some (.arr k []))) m (some (.cells (cs.set off (.own n 0))))⟩ a := by
    refine ⟨hS.size, hS.tm, fun j o hj => ?_, fun j o hj hnil => ?_, fun i j hi hj => hS.inj i j (by rw [← hsome]; exact hi) (by rw [← hsome]; exact hj), hS.base, hS.mlt, ⟨fun j => AV.lives_mono (fun i hi => (hsome i).trans hi) (hS.cl.1 j), fun j o hj => ?_⟩⟩
    · have hj : upd (upd s.o n (some (.arr k []))) m (some (.cells (cs.set off (.own n 0)))) j = some o := hj
      by_cases e : j = m
      · subst e
        rw [upd_same] at hj
        cases hj
        obtain ⟨h1, cur, e, h2, h3, h4, h5⟩ := hS.ob j _ hm1
        refine ⟨h1, cur, e, h2, by simpa using h3, fun i hi => h4 i (by simpa using hi), fun i x hx => ?_⟩
        rw [List.getElem?_set] at hx
        split at hx
        · rename_i hoff
          split at hx
          · cases hx
            have hv := rel_nilslice (h5 off _ hi)
            rw [← hoff, hv]
            exact .ownNil n (by simp)
          · cases hx
        · exact h5 i x hx
      · rw [upd_other e] at hj
        exact hS.ob j o hj
    · have hj : upd (upd s.o n (some (.arr k []))) m (some (.cells (cs.set off (.own n 0)))) j = some o := hj
      by_cases e : j = m
      · subst e; exact hS.lv j _ hm1 hnil
      · rw [upd_other e] at hj; exact hS.lv j o hj hnil
    · have hj : upd (upd s.o n (some (.arr k []))) m (some (.cells (cs.set off (.own n 0)))) j = some o := hj
      have hmono : ∀ i, ((s.setO n (.arr k [])).o i).isSome = true → (upd (upd s.o n (some (.arr k []))) m (some (.cells (cs.set off (.own n 0)))) i).isSome = true := fun i hi => (hsome i).trans hi
      by_cases e : j = m
      · subst e
        rw [upd_same] at hj
        cases hj
        rw [AO.lives_cells]
        intro i x hx
        rw [List.getElem?_set] at hx
        split at hx
        · split at hx
          · cases hx
            intro p hp
            simp only [AV.clean, bne_eq_false_iff_eq] at hp
            subst hp
            refine hmono n ?_
            show (upd s.o n _ n).isSome = true
            simp
          · cases hx
        · exact AV.lives_mono hmono (AO.lives_cells.1 (hS.cl.2 j _ hm1) i x hx)
      · rw [upd_other e] at hj
        exact AO.lives_mono hmono (hS.cl.2 j o hj)
  have := h B S _ _ w a hS2
  refine wpIn_mono this ?_
  rintro e a' w' ⟨ae, st', h1, h2, ⟨⟨θ', M', h3, h4, h5, h6⟩, h7⟩⟩
  exact ⟨ae, st', h1, h2, ⟨⟨θ', M', h3, h4, fun m hm hv => (h5 m hm hv).trans (updL_other (by omega)), fun b hb hm => h6 b hb (.inl hm)⟩, h7⟩⟩
theorem awp_adoptC' {P : Program} {r : RB} {N : Nat} {c : Code} {l : List (Nat × AV)} {mm : List (Nat × AO)} {Q : AEx → St → Prop} (n k m off : Nat) {cs : List AV} (hn4 : r.b ≤ n) (hm : O mm m = some (.cells cs)) (hi : cs[off]? = some (.p (.val (.slice none 0 0)))) (hfree : O mm n = none)
    (h : AWP P r N c ⟨T l, O ((m, .cells (cs.set off (.own n 0))) :: (n, .arr k []) :: mm)⟩ Q) : AWP P r N c ⟨T l, O mm⟩ Q := awp_adoptC n k m off hn4 hm hi hfree h
end AM
end
