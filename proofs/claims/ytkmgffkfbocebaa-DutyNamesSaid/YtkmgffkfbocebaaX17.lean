/- Lemmas for the proof: more of the program's functions, walked on the abstract machine. -/
import Derived.Test.YtkmgffkfbocebaaP5
import Derived.Test.YtkmgffkfbocebaaRows
import Derived.ProofKit
import Derived.Deep.Slices
import Derived.ChangeStays
/- The abstract machine, part 46: functions whose result is a new struct. -/
section
namespace AM
open Go
def viewFL (os : Nat → Option AO) : List AV → Option (List AV)
  | [] => some []
  | x :: r => match viewF 0 os x, viewFL os r with | some y, some ys => some (y :: ys) | _, _ => none
def RetFC (P : Program) (i : Nat) (ty : TypeId) (res : AV) : AEx → St → Prop
  | .exit _, _ => False
  | _, s => ∃ n off g cs xs ys, s.t i = .ptr n off ∧ (tyOf P ty).agg = some g ∧ s.o n = some (.cells cs) ∧ takeCells g (tyOf P ty).sz (cs.drop off) = some (.agg xs) ∧ viewFL s.o xs = some ys ∧ res = .agg ys
def viewT (os : Nat → Option AO) : AV → Option AV
  | .p (.val v) => some (.p (.val v))
  | x => viewF 0 os x
theorem viewT_own {os : Nat → Option AO} {n len k : Nat} {es : List (List PV)} (h : os n = some (.arr k es)) (h1 : len ≤ es.length) (h2 : (es.all fun e => e.all PV.isVal) = true) : viewT os (.own n len) = some (.p (.sl (es.take len))) := by
  unfold viewT viewF; simp only [h]; rw [if_pos ⟨h1, Nat.zero_le _, h2⟩]
theorem viewT_rel {N B : Nat} {S : Nat → Prop} {θ : Nat → Loc} {M M2 : Nat → Prop} {w : World} {st : St} {a : Act} (h : SRel N B S θ M w st a) (ho : Others st θ M2) {x y : AV} {v : Value} (hv : ARel θ M w x v) (hy : viewT st.o x = some y) : ARel θ M2 w y v ∧ y.isP = true := by
  unfold viewT at hy
  split at hy
  · cases hy
    cases hv with
    | p _ _ h => exact ⟨.p _ _ (h.isVal rfl _ _), rfl⟩
  · exact viewF_rel h ho hv hy
def RetFT (i j : Nat) (res : AV) : AEx → St → Prop
  | .exit _, _ => False
  | _, s => ∃ x y, viewT s.o (s.t i) = some x ∧ viewT s.o (s.t j) = some y ∧ res = .tup [x, y]
theorem RetFT_normal {i j : Nat} {res : AV} {s : St} : RetFT i j res .normal s = ∃ x y, viewT s.o (s.t i) = some x ∧ viewT s.o (s.t j) = some y ∧ res = .tup [x, y] := rfl
theorem RetFT_ret {i j : Nat} {res : AV} {s : St} : RetFT i j res .ret s = ∃ x y, viewT s.o (s.t i) = some x ∧ viewT s.o (s.t j) = some y ∧ res = .tup [x, y] := rfl
theorem fcallt_mk {v q : List Nat} {P : Program} {f : FuncId} {fn : Func} {body : Code} {args : List AV} {res : AV} {N i j : Nat} (hf : P.funcs[f]? = some fn) (hb : fn.body = some body) (hN : fn.ntmps = N) (hi : fn.results.toList = [.tmp i, .tmp j]) (hargs : args.all AV.isP = true) (hres : res.isP = true)
    (h : AWP P ⟨⟨none, fun _ => False⟩, 0, v, q⟩ N body ⟨T (ixs 0 args), O []⟩ (RetFT i j res)) : FCall P f args res := by
  subst hN
  rw [← init_ixs] at h
  refine ⟨hres, fun θ M w vs hM hsz hrel => ?_⟩
  refine calls_of_wp hf hb ((wpIn_wide (n := 0)).1 ?_)
  have hH : SRel 0 w.heap.size (fun _ => False) θ M w (Hp fun _ => none) a0 :=
    ⟨Nat.zero_le _, fun _ => .undef _, (fun n o hn => by cases hn), (fun n o hn => by cases hn), (fun n m hn => by cases hn), Nat.le_refl _, hM, ⟨fun _ => AV.lives_undef _, (fun m o hm => by cases hm)⟩⟩
  have h0 := hH.start (fn := fn) hsz hrel (fun i x hx => lives_isP _ (List.all_eq_true.1 hargs x (List.mem_of_getElem? hx)))
  refine wpIn_mono (h _ _ θ M w _ h0) ?_
  rintro e a' w' ⟨ae, st', rfl, hr, ⟨θ', M', hs', hk, ht, hm⟩, hd⟩
  have hoth : Others st' θ' (fun b => b < w.heap.size) := others_blk hs' (fun _ h => h) (fun _ h => h)
  have key : ∀ x y, viewT st'.o (st'.t i) = some x → viewT st'.o (st'.t j) = some y → res = .tup [x, y] →
      ∃ v, (results fn a'.tmps).run P w' = .ok v w' ∧ ∃ v', Ending.returned v = .returned v' ∧ ARel θ (fun b => b < w.heap.size) w' res v' ∧ Keeps (fun b => w.heap.size ≤ b) w w' := by
    intro x y k1 k2 k3
    have r1 := (viewT_rel hs' hoth (hs'.tm i) k1).1
    have r2 := (viewT_rel hs' hoth (hs'.tm j) k2).1
    have hvr : ARel θ' (fun b => b < w.heap.size) w' res (.tuple #[a'.tmps.getD i undef, a'.tmps.getD j undef]) := by
      subst k3
      refine .tup _ _ rfl (fun k z hz => ?_)
      match k, hz with
      | 0, hz => cases hz; exact r1
      | 1, hz => cases hz; exact r2
    have hrr : (results fn a'.tmps).run P w' = .ok (.tuple #[a'.tmps.getD i undef, a'.tmps.getD j undef]) w' := by
      have hus' : (fn.results.mapM (resSem a'.tmps)).run P w' = .ok #[a'.tmps.getD i undef, a'.tmps.getD j undef] w' := by
        rw [Array.mapM_eq_mapM_toList, Sem.run_map, hi]
        simp [resSem]
      rw [results_eq]
      simp only [Sem.run_bind, hus', Result.andThen_ok, Sem.run_pure]
      rfl
    exact ⟨_, hrr, _, rfl, hvr.nameless θ hres, hk.mono (fun b hb => hb.elim id False.elim)⟩
  cases ae with
  | normal =>
    obtain ⟨x, y, k1, k2, k3⟩ := hr
    exact ⟨hd, key x y k1 k2 k3⟩
  | ret =>
    obtain ⟨x, y, k1, k2, k3⟩ := hr
    exact ⟨hd, key x y k1 k2 k3⟩
  | exit j => exact hr.elim
end AM
end
/- The abstract machine, part 47: functions whose result is a new struct, one of whose arrays is one's own from then on. -/
section
namespace AM
open Go
section
variable {P : Program} {r : RB} {N B : Nat} {S : Nat → Prop} {θ : Nat → Loc} {M M2 : Nat → Prop} {w : World} {st : St} {a : Act} {Q : AEx → St → Prop}
theorem viewF_rel1 (h : SRel N B S θ M w st a) {x y : AV} (ho : ∀ n len o, x = .own n len → st.o n = some o → (θ n).nil = false → ¬ M2 (θ n).blk) {v : Value} (hv : ARel θ M w x v) (hy : viewF 0 st.o x = some y) : ARel θ M2 w y v ∧ y.isP = true := by
  unfold viewF at hy
  split at hy
  · cases hy
    cases hv with
    | p _ _ h => cases h with
      | val _ _ => exact ⟨.p _ _ .nil, rfl⟩
  · cases hy
    cases hv with
    | p _ _ h => exact ⟨.p _ _ (h.isVal rfl _ _), rfl⟩
  · rename_i n len
    split at hy
    · rename_i k es hn
      split at hy
      · rename_i hc
        cases hy
        obtain ⟨hlen, _, hall⟩ := hc
        obtain ⟨hk, hob⟩ := h.ob n _ hn
        refine ⟨.p _ _ ?_, rfl⟩
        cases hv with
        | ownNil _ h0 => simpa using PRel.nil
        | own _ _ h0 hcap =>
          rcases hob with ⟨h1, _⟩ | ⟨_, hle, cur, e, hb, hs1, ho1, hx1⟩
          · rw [h1] at h0; cases h0
          · have hl : (es.take len).length = len := by rw [List.length_take]; omega
            have := PRel.sl (M := M2) (w := w) (es.take len) (θ n).blk 0 (θ n).cap k (fun i j => cur.getD (i * k + j) undef) (fun i e hi => by
              rw [List.getElem?_take] at hi
              split at hi
              · exact hk i e hi
              · cases hi) (by rw [hl]; exact hcap) (fun i e' j x hi hj => by
              rw [List.getElem?_take] at hi
              split at hi
              · refine ⟨ho n len _ rfl hn h0, ?_⟩
                have hj' : j < k := by rw [← hk i e' hi]; exact (List.getElem?_eq_some_iff.1 hj).1
                have hi' := (List.getElem?_eq_some_iff.1 hi).1
                have hlt : i * k + j < cur.size := by
                  rw [hs1]
                  have : (i + 1) * k ≤ (θ n).cap * k := Nat.mul_le_mul_right _ (by omega)
                  rw [Nat.add_mul] at this; omega
                rw [Nat.zero_add]
                exact cell_of_block hb (by simp [hlt])
              · cases hi) (fun i e' j x hi hj => by
              rw [List.getElem?_take] at hi
              split at hi
              · have hv := hx1 i e' j x hi hj
                refine hv.isVal ?_ _ _
                have h1 := List.all_eq_true.1 hall e' (List.mem_of_getElem? hi)
                exact List.all_eq_true.1 h1 x (List.mem_of_getElem? hj)
              · cases hi)
            rw [hl] at this
            exact this
      · cases hy
    · cases hy
  · cases hy
def viewH (n : Nat) (es : List (List PV)) (os : Nat → Option AO) : AV → Option (Nat → AV)
  | .own m len => if m = n then (if len = es.length then some fun c => .own c len else none) else (viewF 0 os (.own m len)).map fun y _ => y
  | x => (viewF 0 os x).map fun y _ => y
def viewHL (n : Nat) (es : List (List PV)) (os : Nat → Option AO) : List AV → Option (Nat → List AV)
  | [] => some fun _ => []
  | x :: r => match viewH n es os x, viewHL n es os r with | some y, some ys => some fun c => y c :: ys c | _, _ => none
theorem viewHL_get {n : Nat} {es : List (List PV)} {os : Nat → Option AO} : ∀ {l : List AV} {f : Nat → List AV}, viewHL n es os l = some f → ∀ c, (f c).length = l.length ∧ ∀ (i : Nat) (z : AV), (f c)[i]? = some z → ∃ x y, l[i]? = some x ∧ viewH n es os x = some y ∧ z = y c
  | [], f, h, c => by simp only [viewHL, Option.some.injEq] at h; subst h; exact ⟨rfl, fun i y hy => by simp at hy⟩
  | x :: r, f, h, c => by
    simp only [viewHL] at h
    cases h1 : viewH n es os x with
    | none => simp [h1] at h
    | some y =>
      cases h2 : viewHL n es os r with
      | none => simp [h1, h2] at h
      | some ys =>
        simp only [h1, h2, Option.some.injEq] at h
        subst h
        obtain ⟨h3, h4⟩ := viewHL_get h2 c
        refine ⟨by simp [h3], fun i z hz => ?_⟩
        cases i with
        | zero => simp at hz; exact ⟨x, y, by simp, h1, hz.symm⟩
        | succ i => simpa using h4 i z (by simpa using hz)
def HCall (P : Program) (f : FuncId) (args : List AV) (k : Nat) (es : List (List PV)) (res : Nat → AV) : Prop :=
  (∀ c m, (res c).clean m = false → m = c) ∧ ∀ (θ : Nat → Loc) (M : Nat → Prop) (w : World) (vs : Array Value), (∀ b, M b → b < w.heap.size) → vs.size = args.length → (∀ (i : Nat) (x : AV), args[i]? = some x → ARel θ M w x (vs.getD i undef)) →
    Calls P f vs w fun e w' => ∃ v l, e = .returned v ∧ Keeps (fun b => w.heap.size ≤ b) w w' ∧ (l.nil = false → w.heap.size ≤ l.blk ∧ l.blk < w'.heap.size) ∧ (∀ θ' M', ORel θ' M' w' l (.arr k es)) ∧ ∀ θ' c, θ' c = l → ARel θ' (fun b => b < w.heap.size ∨ (l.nil = false ∧ b = l.blk)) w' (res c) v
def RetHC (P : Program) (i : Nat) (ty : TypeId) (k : Nat) (es : List (List PV)) (res : Nat → AV) : AEx → St → Prop
  | .exit _, _ => False
  | _, s => ∃ n off g cs xs m f, s.t i = .ptr n off ∧ (tyOf P ty).agg = some g ∧ s.o n = some (.cells cs) ∧ takeCells g (tyOf P ty).sz (cs.drop off) = some (.agg xs) ∧ s.o m = some (.arr k es) ∧ (es.all fun e => e.all PV.isVal) = true ∧ viewHL m es s.o xs = some f ∧ res = fun c => .agg (f c)
theorem RetHC_ret {i : Nat} {ty : TypeId} {k : Nat} {es : List (List PV)} {res : Nat → AV} {s : St} : RetHC P i ty k es res .ret s = ∃ n off g cs xs m f, s.t i = .ptr n off ∧ (tyOf P ty).agg = some g ∧ s.o n = some (.cells cs) ∧ takeCells g (tyOf P ty).sz (cs.drop off) = some (.agg xs) ∧ s.o m = some (.arr k es) ∧ (es.all fun e => e.all PV.isVal) = true ∧ viewHL m es s.o xs = some f ∧ res = fun c => .agg (f c) := rfl
theorem nameless {x : AV} (hx : x.isP = true) {θ θ' : Nat → Loc} {M : Nat → Prop} {w : World} {v : Value} (h : ARel θ M w x v) : ARel θ' M w x v := h.nameless θ' hx
theorem hcall_mk {v q : List Nat} {P : Program} {f : FuncId} {fn : Func} {body : Code} {args : List AV} {k : Nat} {es : List (List PV)} {res : Nat → AV} {N i : Nat} {ty : TypeId} (hf : P.funcs[f]? = some fn) (hb : fn.body = some body) (hN : fn.ntmps = N) (hi : fn.results.toList = [.cell i ty]) (hargs : args.all AV.isP = true) (hclean : ∀ c m, (res c).clean m = false → m = c)
    (h : AWP P ⟨⟨none, fun _ => False⟩, 0, v, q⟩ N body ⟨T (ixs 0 args), O []⟩ (RetHC P i ty k es res)) : HCall P f args k es res := by
  subst hN
  rw [← init_ixs] at h
  refine ⟨hclean, fun θ M w vs hM hsz hrel => ?_⟩
  refine calls_of_wp hf hb ((wpIn_wide (n := 0)).1 ?_)
  have hH : SRel 0 w.heap.size (fun _ => False) θ M w (Hp fun _ => none) a0 :=
    ⟨Nat.zero_le _, fun _ => .undef _, (fun n o hn => by cases hn), (fun n o hn => by cases hn), (fun n m hn => by cases hn), Nat.le_refl _, hM, ⟨fun _ => AV.lives_undef _, (fun m o hm => by cases hm)⟩⟩
  have h0 := hH.start (fn := fn) hsz hrel (fun i x hx => lives_isP _ (List.all_eq_true.1 hargs x (List.mem_of_getElem? hx)))
  refine wpIn_mono (h _ _ θ M w _ h0) ?_
  rintro e a' w' ⟨ae, st', rfl, hr, ⟨θ', M', hs', hk, ht, hm⟩, hd⟩
  have hoth : Others st' θ' (fun b => b < w.heap.size) := others_blk hs' (fun _ h => h) (fun _ h => h)
  have key : ∀ n off g cs xs m f, st'.t i = .ptr n off → (tyOf P ty).agg = some g → st'.o n = some (.cells cs) → takeCells g (tyOf P ty).sz (cs.drop off) = some (.agg xs) → st'.o m = some (.arr k es) → (es.all fun e => e.all PV.isVal) = true → viewHL m es st'.o xs = some f → res = (fun c => .agg (f c)) →
      ∃ v, (results fn a'.tmps).run P w' = .ok v w' ∧ ∃ v' l, Ending.returned v = .returned v' ∧ Keeps (fun b => w.heap.size ≤ b) w w' ∧ (l.nil = false → w.heap.size ≤ l.blk ∧ l.blk < w'.heap.size) ∧ (∀ θ' M', ORel θ' M' w' l (.arr k es)) ∧ ∀ θ' c, θ' c = l → ARel θ' (fun b => b < w.heap.size ∨ (l.nil = false ∧ b = l.blk)) w' (res c) v' := by
    intro n off g cs xs m f k1 k2 k3 k4 k5 k6 k7 k8
    have hv := rel_ptr (hs'.tm i) k1
    have hc := (cellsAt_obj hs' k3).drop off
    rw [Nat.zero_add] at hc
    obtain ⟨v, hrun, hrel⟩ := hc.load k2 k4
    have hrr : (results fn a'.tmps).run P w' = .ok v w' := by
      have hus' : (fn.results.mapM (resSem a'.tmps)).run P w' = .ok #[v] w' := by
        rw [Array.mapM_eq_mapM_toList, Sem.run_map, hi]
        simp [resSem, hv, asAddr, hrun]
      rw [results_eq]
      simp only [Sem.run_bind, hus', Result.andThen_ok, Sem.run_pure]
      rfl
    refine ⟨v, hrr, _, θ' m, rfl, hk.mono (fun b hb => hb.elim id False.elim), fun hnil => ?_, fun θ2 M2 => ?_, fun θ2 c hc2 => ?_⟩
    · obtain ⟨h1, h2⟩ := hs'.lv m _ k5 hnil
      exact ⟨h2.elim id False.elim, hs'.mlt _ h1⟩
    · obtain ⟨hkk, hob⟩ := hs'.ob m _ k5
      refine ⟨hkk, hob.imp id (fun ⟨q1, q2, cur, e, q3, q4, q5, q6⟩ => ⟨q1, q2, cur, e, q3, q4, q5, fun i e' j x hi hj => ?_⟩)⟩
      have h1 := List.all_eq_true.1 k6 e' (List.mem_of_getElem? hi)
      have h2 := List.all_eq_true.1 h1 x (List.mem_of_getElem? hj)
      exact (q6 i e' j x hi hj).isVal h2 _ _
    · subst k8
      obtain ⟨hl, hg⟩ := viewHL_get k7 c
      cases hrel with
      | agg _ vs hs hone hr =>
        refine .agg (f c) vs (by rw [hl]; exact hs) (fun i hi => hone i (by rw [← hl]; exact hi)) (fun i z hz => ?_)
        obtain ⟨x, y, h1, h2, rfl⟩ := hg i z hz
        have hx := hr i x h1
        have hno : ∀ n2 len o, x = .own n2 len → n2 ≠ m → st'.o n2 = some o → (θ' n2).nil = false → ¬ (fun b => b < w.heap.size ∨ ((θ' m).nil = false ∧ b = (θ' m).blk)) (θ' n2).blk := fun n2 len o _ hne ho hnil hM => by
          rcases hM with hM | ⟨hM, e⟩
          · exact hoth n2 o ho hnil hM
          · exact hne (hs'.inj n2 m (by rw [ho]; rfl) (by rw [k5]; rfl) hnil hM e)
        have hpure : ∀ y', viewF 0 st'.o x = some y' → (∀ n2 len, x = .own n2 len → n2 ≠ m) → ARel θ2 (fun b => b < w.heap.size ∨ ((θ' m).nil = false ∧ b = (θ' m).blk)) w' y' (vs.getD i undef) := fun y' hy' hne => by
          obtain ⟨h3, h4⟩ := viewF_rel1 (M2 := fun b => b < w.heap.size ∨ ((θ' m).nil = false ∧ b = (θ' m).blk)) hs' (fun n2 len o e ho hnil => hno n2 len o e (hne n2 len e) ho hnil) hx hy'
          exact nameless h4 h3
        unfold viewH at h2
        split at h2
        · rename_i m2 len
          split at h2
          · rename_i e
            subst e
            split at h2
            · cases h2
              generalize vs.getD i undef = v at hx
              cases hx with
              | own _ _ h0 h3 =>
                rw [← hc2]
                exact .own c len (by rw [hc2]; exact h0) (by rw [hc2]; exact h3)
              | ownNil _ h0 => exact .ownNil c (by rw [hc2]; exact h0)
            · cases h2
          · rename_i e
            simp only [Option.map_eq_some_iff] at h2
            obtain ⟨y', h2, rfl⟩ := h2
            exact hpure y' h2 (fun n2 len2 e2 => by cases e2; exact e)
        · rename_i hno2
          simp only [Option.map_eq_some_iff] at h2
          obtain ⟨y', h2, rfl⟩ := h2
          exact hpure y' h2 (fun n2 len2 e2 => (hno2 n2 len2 e2).elim)
  cases ae with
  | normal =>
    obtain ⟨n, off, g, cs, xs, m, f, k1, k2, k3, k4, k5, k6, k7, k8⟩ := hr
    exact ⟨hd, key n off g cs xs m f k1 k2 k3 k4 k5 k6 k7 k8⟩
  | ret =>
    obtain ⟨n, off, g, cs, xs, m, f, k1, k2, k3, k4, k5, k6, k7, k8⟩ := hr
    exact ⟨hd, key n off g cs xs m f k1 k2 k3 k4 k5 k6 k7 k8⟩
  | exit j => exact hr.elim
theorem astep_hcall {K : St → Prop} {o : Oper} {c : Call} {f : FuncId} (ho : o.op = .call c) {d : Nat} (hdst : o.dst = some d) (hd : d < N) (hc : c.callee = .value (.func f)) (hf : callable P f = true) {args : List AV} (hargs : viewAs st.o (c.args.toList.map (ev st.t)) = some args) {k : Nat} {es : List (List PV)} {res : Nat → AV} (hcall : HCall P f args k es res)
    (hfree : st.o (r.b + d) = none) (h : K ((st.setO (r.b + d) (.arr k es)).put o.dst (res (r.b + d)))) : AStep P r N o st K := by
  intro B S θ M w a Q hsr
  refine ⟨fun _ _ => trivial, ?_⟩
  rw [Oper.semAt_eq _ _ _ (by rw [ho]; intro c h; cases h), run_call ho hc hf]
  refine ⟨fun h => by simp [Wd] at h, callsIn_of_calls ?_⟩
  obtain ⟨hl, hg⟩ := viewAs_get hargs
  have hval : ∀ (i : Nat) (z : Operand), c.args.toList[i]? = some z → (c.args.map a.eval).getD i undef = a.eval z := fun i z hz => by
    have : c.args[i]? = some z := by simpa using hz
    simp [Array.getD_eq_getD_getElem?, this]
  refine Calls.mono (hcall.2 θ (without st θ M) w (c.args.map a.eval) (fun b hb => hsr.mlt b hb.1) (by rw [hl]; simp) (fun i y hy => ?_)) ?_
  · obtain ⟨x, hx, hv⟩ := hg i y hy
    simp only [List.getElem?_map, Option.map_eq_some_iff] at hx
    obtain ⟨z, hz, rfl⟩ := hx
    rw [hval i z hz]
    exact (viewA_rel hsr (M2 := without st θ M) (fun b hb => hb.1) (fun n o hn hnil hb => hb.2 ⟨n, o, hn, hnil, rfl⟩) (ev_rel hsr z) hv).1
  · rintro e w' ⟨v, l, rfl, hk, hblk, hob, hres⟩
    have hnew := hsr.new (d := r.b + d) hfree (w' := w') (l := l) (o := .arr k es) hk.size (fun b hb => hk.same b hb (by omega)) hblk (hob _ _) (AO.lives_arr _ _ _)
    have hvr : ARel (updL θ (r.b + d) l) (fun b => M b ∨ (l.nil = false ∧ b = l.blk)) w' (res (r.b + d)) v := by
      refine (hres (updL θ (r.b + d) l) (r.b + d) (updL_same _ _ _)).mono (fun _ _ _ => rfl) (fun b _ hb => hb.imp (hsr.mlt b) id)
    refine ⟨_, h, ⟨_, _, hnew.put (d := o.dst) (fun j hj => by rw [hdst] at hj; cases hj; exact hd) hvr (fun n hn => ?_), ⟨hk.size, fun b hb hn => hk.same b hb (by omega), hk.os, hk.tape, hk.output⟩, fun n hn _ => updL_other (by omega), fun b _ hb => .inl hb⟩, by cases o.dst <;> rfl⟩
    have hn := hcall.1 _ _ hn
    subst hn
    show (upd st.o (r.b + d) (some (.arr k es)) (r.b + d)).isSome = true
    simp
theorem al_hcall {all rest : List Oper} {K : St → Prop} {f : FuncId} {ars : Array Operand} {ts : Array TypeId} {ty : TypeId} {pos : String} {after : Array Edge} {d k : Nat} {es : List (List PV)} {res : Nat → AV} {args : List AV} (hcall : HCall P f args k es res) (hd : d < N) (hf : callable P f = true) (hargs : viewAs st.o (ars.toList.map (ev st.t)) = some args) (hfree : st.o (r.b + d) = none)
    (h : AL P r N all rest ((st.setO (r.b + d) (.arr k es)).put (some d) (res (r.b + d))) K) : AL P r N all (⟨some d, .call ⟨.value (.func f), ars, ts⟩, ty, pos, after, none⟩ :: rest) st K :=
  AL.step (astep_hcall (o := ⟨some d, .call ⟨.value (.func f), ars, ts⟩, ty, pos, after, none⟩) rfl rfl hd rfl hf hargs hcall hfree h)
theorem al_eo {all rest : List Oper} {K : St → Prop} {dst : Option Nat} {op : Op} {ty : TypeId} {pos : String} {after : Array Edge} (h : EO P r N ⟨dst, op, ty, pos, after, none⟩ st (fun s' => AL P r N all rest s' K)) : AL P r N all (⟨dst, op, ty, pos, after, none⟩ :: rest) st K := AL.step (EO_sound h)
end
end AM
end
/- The examples' account is new: one may write on its entries, or on its rates. -/
section
namespace AM.Try
open Go AM AM.Duty
open Nat renaming reduceLT → sA, reduceAdd → sB, reduceMul → sC, reduceSub → sD, reduceLeDiff → sE, reduceEqDiff → sF, reduceBEq → sG
open Int renaming reduceAdd → sH, reduceSub → sI, reduceMul → sJ, reduceLT → sK, reduceLE → sL, reduceNeg → sM, reduceToNat → sN, reduceEq → sO
set_option maxHeartbeats 8000000
set_option maxRecDepth 100000
theorem h44e : HCall Go.Proofs.Try.prog 44 [.p (.val (.slice none 0 0))] 5 [[iv 0, iv 0, iv 40, iv 42, iv 0], [iv 1, iv 1, iv 0, iv 0, iv 200], [iv 2, iv 2, iv 10, iv 10, iv 0], [iv 0, iv 3, iv 20, iv 20, iv 0]] (fun c => .agg [i64 4, i64 100, i64 1000, i64 300, .p (.sl [[iv 0, iv 20], [iv 3, iv 30]]), .own c 4]) := by
  refine hcall_mk (v := []) (q := []) (N := 17) (i := 2) (ty := 35) Go.Proofs.Try.func44 rfl rfl rfl rfl (fun c m h => by simp [AV.clean, AV.clean.cleanL] at h; omega) ?_
  refine awp_seq_k fun K1 hK1 => ?_
  refine awp_ops ?_
  simp (disch := omega) only [amL, amT, sA, sB, ↓reduceIte]
  refine hK1 _ ?_
  refine awp_seq_k fun K2 hK2 => ?_
  refine awp_ops ?_
  simp (disch := omega) only [amL, amT, sA, sB, sC, sE, sF, ↓reduceIte, reduceCtorEq]
  repeat' first | (refine EC_intro (by kernel_rfl) rfl (c45 _ _) (by first | exact .inl rfl | exact .inr (.inl rfl)) ?_ ; simp (disch := omega) only [amL, amT, sA, sB, sC, sE, sF, ↓reduceIte, reduceCtorEq])
  refine hK2 _ ?_
  refine awp_ret ?_
  try simp (disch := omega) only [amL, amT, sA, sB, sC, sD, sE, sF, sG, sH, sI, sJ, sK, sL, sM, sN, sO, ↓reduceIte, reduceCtorEq]
  rw [RetHC_ret]; exact ⟨2, 0, _, _, _, 15, _, rfl, (by simp only [amT]; rfl), rfl, (by simp only [amT]; rfl), rfl, rfl, rfl, rfl⟩
theorem h44r : HCall Go.Proofs.Try.prog 44 [.p (.val (.slice none 0 0))] 2 [[iv 0, iv 20], [iv 3, iv 30]] (fun c => .agg [i64 4, i64 100, i64 1000, i64 300, .own c 2, .p (.sl [[iv 0, iv 0, iv 40, iv 42, iv 0], [iv 1, iv 1, iv 0, iv 0, iv 200], [iv 2, iv 2, iv 10, iv 10, iv 0], [iv 0, iv 3, iv 20, iv 20, iv 0]])]) := by
  refine hcall_mk (v := []) (q := []) (N := 17) (i := 2) (ty := 35) Go.Proofs.Try.func44 rfl rfl rfl rfl (fun c m h => by simp [AV.clean, AV.clean.cleanL] at h; omega) ?_
  refine awp_seq_k fun K1 hK1 => ?_
  refine awp_ops ?_
  simp (disch := omega) only [amL, amT, sA, sB, ↓reduceIte]
  refine hK1 _ ?_
  refine awp_seq_k fun K2 hK2 => ?_
  refine awp_ops ?_
  simp (disch := omega) only [amL, amT, sA, sB, sC, sE, sF, ↓reduceIte, reduceCtorEq]
  repeat' first | (refine EC_intro (by kernel_rfl) rfl (c45 _ _) (by first | exact .inl rfl | exact .inr (.inl rfl)) ?_ ; simp (disch := omega) only [amL, amT, sA, sB, sC, sE, sF, ↓reduceIte, reduceCtorEq])
  refine hK2 _ ?_
  refine awp_ret ?_
  try simp (disch := omega) only [amL, amT, sA, sB, sC, sD, sE, sF, sG, sH, sI, sJ, sK, sL, sM, sN, sO, ↓reduceIte, reduceCtorEq]
  rw [RetHC_ret]; exact ⟨2, 0, _, _, _, 5, _, rfl, (by simp only [amT]; rfl), rfl, (by simp only [amT]; rfl), rfl, rfl, rfl, rfl⟩
end AM.Try
end
/- The statements: what is read of the arguments is what the walks take; what a pure call leaves is what the statements ask. -/
section
namespace AM.Try
set_option maxRecDepth 100000
open Go AM AM.Duty Go.ChangeShapes Go.WideShapes Go.ChangeAt Go.RowKit
noncomputable abbrev TP : Program := Go.Proofs.Try.prog
theorem tp_laid : laidOutB TP = true := by kernel_rfl
theorem tp_maps : mapsRowed TP = true := by kernel_rfl
theorem tp_kids : Kids TP (· < TP.types.size) := kids_rows tp_laid tp_maps
theorem tp_full : ∀ t e, t < TP.types.size → TP.underlying t = some (.slice e) → 0 < TP.cellsOf e := slices_full_of TP (by kernel_rfl)
theorem tp_own : ownKnob TP.godebug = none := by kernel_rfl
section
variable {H : Type} {enc : TypeId × Value → H} {W W' : World}
theorem same_at (hk : Keeps (fun b => W.heap.size ≤ b) W W') {p : MemPlace} (hp : p.block < W.heap.size) : W.sameAt W' p := by
  have h := hk.same p.block hp (by omega)
  cases p with
  | cell b off => simp only [World.sameAt, World.cell?]; rw [show W'.heap[b]? = W.heap[b]? from h]
  | map b => exact h
theorem reads_again (hk : Keeps (fun b => W.heap.size ≤ b) W W') (sp : Nat → Bool) : ∀ {ts : List TypeId} {vs : List Value} {ds : List (DataW H)} {p : List MemPlace},
    (∀ t ∈ ts, t < TP.types.size) → DataW.TrodAll enc TP W 0 (fun _ => true) true ts vs ds p → (∀ x ∈ p, x.block < W.heap.size) → (∀ x ∈ p, sp x.block = true) → DataW.TrodAll enc TP W' 0 sp true ts vs ds p
  | [], [], [], _, _, h, _, _ => h
  | _ :: _, _ :: _, _ :: _, _, hT, ⟨p, q, ⟨n, h1⟩, h2, e⟩, hl, hs =>
    ⟨p, q, ⟨n, DataW.trod_stays tp_kids (fun ht hu => tp_full _ _ ht hu) (fun h => by cases h) (hT _ (List.mem_cons.2 (Or.inl rfl))) h1 (fun x hx => same_at hk (hl x (by rw [e]; exact List.mem_append_left _ hx))) (fun x hx => hs x (by rw [e]; exact List.mem_append_left _ hx))⟩,
      reads_again hk sp (fun t ht => hT t (List.mem_cons.2 (Or.inr ht))) h2 (fun x hx => hl x (by rw [e]; exact List.mem_append_right _ hx)) (fun x hx => hs x (by rw [e]; exact List.mem_append_right _ hx)), e⟩
theorem kept_of_keeps (hk : Keeps (fun b => W.heap.size ≤ b) W W') (may : MemPlace → Prop) : W.keptBut W' may := by
  refine ⟨hk.os, hk.output, fun i hi => ?_⟩
  have h := hk.same i hi (by omega)
  rw [h]
  cases W.heap[i]? with
  | none => rfl
  | some o => cases o <;> first | exact ⟨rfl, rfl, rfl, fun _ _ => rfl⟩ | exact .inr ⟨rfl, rfl⟩ | rfl
theorem law_post {fn : Func} {s : ChangeSpec} {args : Array Value} {ds gs : List (DataW H)} {before : List MemPlace} (hr : fn.resultTypes = #[4]) (hp : ∀ t ∈ fn.params.toList, t < TP.types.size) (hv : s.vars = [])
    (hfn : s.fn H (ds ++ gs) = { results := [.lit (.bool true)], args := ds }) (hW : DataW.Whole enc TP fn.params.toList s.vars false W args.toList ds gs before) (hk : Keeps (fun b => W.heap.size ≤ b) W W') :
    s.post enc TP fn false true false false W args (.bool true) W' := by
  have hW0 := hW
  obtain ⟨p, q, hA, hV, rfl, hz, hn⟩ := hW
  rw [hv] at hV
  obtain ⟨rfl, rfl⟩ := trodVars_none hV
  have hlt : ∀ x ∈ p, x.block < W.heap.size := hA.lt
  refine ⟨ds, [], p ++ [], [], p, [], hW0, ?_, ?_, ?_, World.keptBut_mono (fun x hx => ⟨hx, .inr (.inl (by simpa using hx))⟩) (kept_of_keeps hk _), fun h => by cases h⟩
  · rw [hfn, hr]; exact trodAll_mk1 (shut_bool Go.Proofs.Try.underlying4 true)
  · rw [hfn]; exact reads_again hk _ hp hA hlt (fun x hx => by simpa using hlt x hx)
  · rw [hfn, hv]; rfl
theorem law_calls {f : FuncId} {avs : List AV} {fn : Func} {s : ChangeSpec} {args : Array Value} {ds gs : List (DataW H)} {before : List MemPlace} (hc : PCall TP f avs (bl true)) (hsz : args.size = avs.length) (hrel : ∀ θ (i : Nat) (x : AV), avs[i]? = some x → ARel θ (fun _ => False) W x (args.getD i undef))
    (hr : fn.resultTypes = #[4]) (hp : ∀ t ∈ fn.params.toList, t < TP.types.size) (hv : s.vars = []) (hfn : s.fn H (ds ++ gs) = { results := [.lit (.bool true)], args := ds }) (hW : DataW.Whole enc TP fn.params.toList s.vars false W args.toList ds gs before) :
    Calls TP f args W fun e W' => ∃ v, e = .returned v ∧ s.post enc TP fn false true false false W args v W' := by
  refine (hc.2 (fun _ => ⟨0, 0, true⟩) (fun _ => False) W args (fun b h => h.elim) hsz (fun i x hx => hrel _ i x hx)).mono ?_
  rintro e W' ⟨v, rfl, hv', hk⟩
  cases hv' with
  | p _ _ h =>
    cases h with
    | val _ _ => exact ⟨_, rfl, law_post hr hp hv hfn hW hk⟩
end
end AM.Try
end
/- Play's debts are new; a list's copy is one's own. -/
section
namespace AM.Try
open Go AM AM.Duty
open Nat renaming reduceLT → sA, reduceAdd → sB, reduceMul → sC, reduceSub → sD, reduceLeDiff → sE, reduceEqDiff → sF, reduceBEq → sG
open Int renaming reduceAdd → sH, reduceSub → sI, reduceMul → sJ, reduceLT → sK, reduceLE → sL, reduceNeg → sM, reduceToNat → sN, reduceEq → sO
set_option maxHeartbeats 8000000
set_option maxRecDepth 100000
theorem c21f (a : Acc) (t : List Int) (hl1 : a.rates.length < 1000000) (hl2 : a.entries.length < 1000000) (hlt : t.length < 1000000) (hin : ∀ e ∈ a.entries, inR e.lo = true ∧ inR e.hi = true) : FCall Go.Proofs.Try.prog 21 [avA a, isl t] (playA a t) := by
  refine fcallt_mk (v := []) (q := []) (N := 52) (i := 4) (j := 5) Go.Proofs.Try.func21 rfl rfl rfl rfl (playA_isP a t) ?_
  refine awp_seq_k fun K1 hK1 => ?_
  refine awp_ops ?_
  simp (disch := omega) only [amL, sA, sB, ↓reduceIte]
  refine hK1 _ ?_
  refine awp_seq_k fun K2 hK2 => ?_
  refine awp_seq_k fun K3 hK3 => ?_
  refine awp_ops ?_
  simp (disch := omega) only [amL, amT, sA, sB, sF, ↓reduceIte]
  repeat' first | (refine EC_intro (by kernel_rfl) rfl (c25 a hl1 hl2 hin) (by first | exact .inl rfl | exact .inr (.inl rfl)) ?_ ; simp (disch := omega) only [amL, sA, ↓reduceIte])
  refine hK3 _ ?_
  refine awp_seq_k fun K4 hK4 => ?_
  refine awp_ops ?_
  simp (disch := omega) only [ne_eq, amL, amT, sA, ↓reduceIte]
  refine hK4 _ ?_
  refine awp_cond rfl (fun h => ?_) (fun h => ?_)
  ·first
   | exact Bool.noConfusion h
   |skip
    try simp only [Bool.not_eq_true', decide_eq_false_iff_not, decide_not] at h
    refine awp_seq_k fun K5 hK5 => ?_
    refine awp_ops ?_
    simp (disch := omega) only [amL, sA, sF, ↓reduceIte]
    refine hK5 _ ?_
    refine awp_ret ?_
    try simp (disch := omega) only [RetFT_ret, amL, sF, ↓reduceIte]
    first | (rw [playA, if_neg (by assumption)]; exact ⟨_, _, rfl, rfl, rfl⟩) | (rw [playA, if_pos hf0, if_pos hli, if_pos hb]; refine ⟨_, _, viewT_own rfl (by simp) (ints_isVal _), rfl, ?_⟩; rw [List.take_of_length_le (by simp)]; done) | (rw [playA, if_pos hf0, if_pos hli, if_neg (by simpa using h)]; exact ⟨_, _, rfl, rfl, rfl⟩) | (rw [playA, if_pos (by omega), if_neg (fun e => by have := listed_len e; omega)]; exact ⟨_, _, rfl, rfl, rfl⟩) | (rw [playA, if_pos (by omega), if_neg (fun e => by have := listed_get e k (by omega); simp_all)]; exact ⟨_, _, rfl, rfl, rfl⟩) | (omega)
  ·first
   | exact Bool.noConfusion h
   |skip
    try simp only [decide_eq_true_eq, Bool.not_eq_false', decide_not] at h
    refine awp_skip ?_
    refine hK2 _ ?_
    refine awp_seq_k fun K6 hK6 => ?_
    refine awp_seq_k fun K7 hK7 => ?_
    refine awp_ops ?_
    simp (disch := omega) only [ne_eq, amL, amT, sA, sF, ↓reduceIte, reduceCtorEq]
    refine hK7 _ ?_
    refine awp_cond rfl (fun h => ?_) (fun h => ?_)
    ·first
     | exact Bool.noConfusion h
     |skip
      try simp only [Bool.not_eq_true', decide_eq_false_iff_not, decide_not] at h
      refine awp_seq_k fun K8 hK8 => ?_
      refine awp_ops ?_
      simp (disch := omega) only [amL, sA]
      refine hK8 _ ?_
      refine awp_ret ?_
      try simp (disch := omega) only [RetFT_ret, amL, sF, ↓reduceIte]
      first | (rw [playA, if_neg (by assumption)]; exact ⟨_, _, rfl, rfl, rfl⟩) | (rw [playA, if_pos hf0, if_pos hli, if_pos hb]; refine ⟨_, _, viewT_own rfl (by simp) (ints_isVal _), rfl, ?_⟩; rw [List.take_of_length_le (by simp)]; done) | (rw [playA, if_pos hf0, if_pos hli, if_neg (by simpa using h)]; exact ⟨_, _, rfl, rfl, rfl⟩) | (rw [playA, if_pos (by omega), if_neg (fun e => by have := listed_len e; omega)]; exact ⟨_, _, rfl, rfl, rfl⟩) | (rw [playA, if_pos (by omega), if_neg (fun e => by have := listed_get e k (by omega); simp_all)]; exact ⟨_, _, rfl, rfl, rfl⟩) | (omega)
    ·first
     | exact Bool.noConfusion h
     |skip
      try simp only [decide_eq_true_eq, Bool.not_eq_false', decide_not] at h
      refine awp_skip ?_
      refine hK6 _ ?_
      refine awp_seq_k fun K9 hK9 => ?_
      refine awp_seq_k fun K10 hK10 => ?_
      refine awp_ops ?_
      simp (disch := omega) only [amL, amT, sA, sF, ↓reduceIte, reduceCtorEq]
      refine hK10 _ ?_
      refine awp_block ?_
      skip
      refine awp_loop_k (α := Nat) (fun k => ⟨T [(1, isl t), (2, .ptr 2 0), (23, .p (.sl (a.entries.map encE))), (24, i64 a.entries.length), (25, i64 k)], O [(2, .cells (cA a))]⟩) (fun k => a.entries.length - k) (fun k => k ≤ a.entries.length ∧ ∀ j, j < k → inB (t.getD j 0) (getE a.entries j).lo (getE a.entries j).hi = true) 0 ?_ ?_ (fun k hx11 K11 hK11 => ?_)
      · exact ⟨by omega, fun j hj => absurd hj (by omega)⟩
      · refine le_mk ?_ ?_ ?_ ?_ <;> (try simp (disch := omega) only [amL, sF, ↓reduceIte, reduceCtorEq])
      obtain ⟨hk, hn⟩ := hx11
      refine awp_seq_k fun K12 hK12 => ?_
      refine awp_ops ?_
      simp (disch := omega) only [amL, amT, sA, sF, ↓reduceIte]
      refine hK12 _ ?_
      refine awp_seq_k fun K13 hK13 => ?_
      refine awp_cond rfl (fun h => ?_) (fun h => ?_)
      ·first
       | exact Bool.noConfusion h
       |skip
        try simp only [decide_eq_true_eq] at h
        refine awp_skip ?_
        refine hK13 _ ?_
        refine awp_seq_k fun K14 hK14 => ?_
        refine awp_block ?_
        refine awp_seq_k fun K15 hK15 => ?_
        refine awp_ops ?_
        simp (disch := omega) only [encE_getD, amL, amT, sA, sB, sF, ↓reduceIte]
        refine hK15 _ ?_
        refine awp_seq_k fun K16 hK16 => ?_
        refine awp_any2 (by kernel_rfl) (by kernel_rfl) ?_
        simp (disch := omega) only [amL, amT, sA, sB, sE, sF, ↓reduceIte, reduceCtorEq]
        repeat' first | (refine EC_intro (by kernel_rfl) rfl (c58 _ _ _) (by first | exact .inl rfl | exact .inr (.inl rfl)) ?_ ; simp (disch := omega) only [amL, sA, ↓reduceIte])
        refine hK16 _ ?_
        refine awp_cond rfl (fun h => ?_) (fun h => ?_)
        ·first
         | exact Bool.noConfusion h
         |skip
          try simp only [Bool.not_eq_true'] at h
          refine awp_seq_k fun K17 hK17 => ?_
          refine awp_ops ?_
          simp (disch := omega) only [amL, sA]
          refine hK17 _ ?_
          refine awp_ret ?_
          try simp (disch := omega) only [RetFT_ret, amL, sF, ↓reduceIte]
          first | (rw [playA, if_neg (by assumption)]; exact ⟨_, _, rfl, rfl, rfl⟩) | (rw [playA, if_pos hf0, if_pos hli, if_pos hb]; refine ⟨_, _, viewT_own rfl (by simp) (ints_isVal _), rfl, ?_⟩; rw [List.take_of_length_le (by simp)]; done) | (rw [playA, if_pos hf0, if_pos hli, if_neg (by simpa using h)]; exact ⟨_, _, rfl, rfl, rfl⟩) | (rw [playA, if_pos (by omega), if_neg (fun e => by have := listed_len e; omega)]; exact ⟨_, _, rfl, rfl, rfl⟩) | (rw [playA, if_pos (by omega), if_neg (fun e => by have := listed_get e k (by omega); simp_all)]; exact ⟨_, _, rfl, rfl, rfl⟩) | (omega)
        ·first
         | exact Bool.noConfusion h
         |skip
          try simp only [Bool.not_eq_false'] at h
          refine awp_skip ?_
          refine hK14 _ ?_
          refine awp_ops ?_
          simp (disch := omega) only [amL, amT, sA, sF, ↓reduceIte]
          refine hK11 (k+1) _ ?_ ?_ (le_mk ?_ ?_ ?_ ?_)
          all_goals (try simp (disch := omega) only [amL, sF, ↓reduceIte])
          all_goals first | omega | exact ⟨by omega, fun j hj => by
            by_cases e : j = k
            · subst e; assumption
            · exact hn j (by omega)⟩ | (omega)
      ·first
       | exact Bool.noConfusion h
       |skip
        try simp only [decide_eq_false_iff_not] at h
        refine awp_exit ?_
        refine hK9 _ ?_
        refine awp_seq_k fun K18 hK18 => ?_
        refine awp_ops ?_
        have hli : listedP a.entries t = true := listed_of (by omega) (fun j hj => hn j (by omega))
        have hf0 : faultS a = 0 := by omega
        have hfit := fitP_of hf0 hli
        have hpl := pad_len (playS_le (t := t) (paid := []) (ask := true) hfit.last1)
        have hpc := putCells_all (vs := List.map i64 (pad (playS a t [] true).1)) (l := [i64 0, i64 0, i64 0, i64 0, i64 0, i64 0, i64 0, i64 0, i64 0, i64 0, i64 0, i64 0]) (by rw [List.length_map, hpl]; rfl)
        have hl0 := hfit.last0
        have hl11 := hfit.last1
        simp (disch := omega) only [amL, amT, sA, sB, sF, ↓reduceIte]
        repeat' first | (refine EC_intro (by kernel_rfl) rfl (PCall.of_nil 2 rfl (c59 a t [] true hfit (by simp))) (by first | exact .inl rfl | exact .inr (.inl rfl)) ?_ ; simp (disch := omega) only [hpl, hpc, amL, amT, sA, sB, sF, ↓reduceIte])
        refine hK18 _ ?_
        refine awp_seq_k fun K19 hK19 => ?_
        refine awp_seq_k fun K20 hK20 => ?_
        refine awp_ops ?_
        simp (disch := omega) only [amL, sA, ↓reduceIte]
        refine hK20 _ ?_
        refine awp_cond rfl (fun h => ?_) (fun h => ?_)
        ·first
         | exact Bool.noConfusion h
         |skip
          try simp only [Bool.not_eq_true'] at h
          refine awp_seq_k fun K21 hK21 => ?_
          refine awp_ops ?_
          simp (disch := omega) only [amL, sA]
          refine hK21 _ ?_
          refine awp_ret ?_
          try simp (disch := omega) only [RetFT_ret, amL, sF, ↓reduceIte]
          first | (rw [playA, if_neg (by assumption)]; exact ⟨_, _, rfl, rfl, rfl⟩) | (rw [playA, if_pos hf0, if_pos hli, if_pos hb]; refine ⟨_, _, viewT_own rfl (by simp) (ints_isVal _), rfl, ?_⟩; rw [List.take_of_length_le (by simp)]; done) | (rw [playA, if_pos hf0, if_pos hli, if_neg (by simpa using h)]; exact ⟨_, _, rfl, rfl, rfl⟩) | (rw [playA, if_pos (by omega), if_neg (fun e => by have := listed_len e; omega)]; exact ⟨_, _, rfl, rfl, rfl⟩) | (rw [playA, if_pos (by omega), if_neg (fun e => by have := listed_get e k (by omega); simp_all)]; exact ⟨_, _, rfl, rfl, rfl⟩) | (omega)
        ·first
         | exact Bool.noConfusion h
         |skip
          try simp only [Bool.not_eq_false'] at h
          refine awp_skip ?_
          refine hK19 _ ?_
          refine awp_seq_k fun K22 hK22 => ?_
          refine awp_ops ?_
          simp (disch := omega) only [EO_slice95, fSlA_ptr, bound_none, bound_some, bnd1_int, viewA_csl, viewC_csl, amL, amT, sA, sF, sH, sK, sL, sN, ↓reduceIte, reduceCtorEq]
          have hb : (playS a t [] true).2 = true := by simpa using h
          simp only [show (a.last + 1 - 0).toNat = (a.last + 1).toNat by omega]
          rw [elems_ints rfl (by rw [hpl]; omega), pad_take2 (playS_len hb)]
          simp only [Option.map_some, oc2_some]
          refine EN_intro (by kernel_rfl) (by decide) (n60 _ (by rw [playS_len hb]; omega)) (by simp (disch := omega) only [amL, sF, ↓reduceIte]) ?_
          simp (disch := omega) only [amL, sA, ↓reduceIte]
          all_goals
           skip
           refine hK22 _ ?_
           refine awp_ret ?_
           try simp (disch := omega) only [RetFT_ret, amL, sF, ↓reduceIte]
           first | (rw [playA, if_neg (by assumption)]; exact ⟨_, _, rfl, rfl, rfl⟩) | (rw [playA, if_pos hf0, if_pos hli, if_pos hb]; refine ⟨_, _, viewT_own rfl (by simp) (ints_isVal _), rfl, ?_⟩; rw [List.take_of_length_le (by simp)]; done) | (rw [playA, if_pos hf0, if_pos hli, if_neg (by simpa using h)]; exact ⟨_, _, rfl, rfl, rfl⟩) | (rw [playA, if_pos (by omega), if_neg (fun e => by have := listed_len e; omega)]; exact ⟨_, _, rfl, rfl, rfl⟩) | (rw [playA, if_pos (by omega), if_neg (fun e => by have := listed_get e k (by omega); simp_all)]; exact ⟨_, _, rfl, rfl, rfl⟩) | (omega)
end AM.Try
end
/- The law of names: the document's examples, and the errors. -/
section
namespace AM.Try
open Go AM AM.Duty
open Nat renaming reduceLT → sA, reduceAdd → sB, reduceMul → sC, reduceSub → sD, reduceLeDiff → sE, reduceEqDiff → sF, reduceBEq → sG
open Int renaming reduceAdd → sH, reduceSub → sI, reduceMul → sJ, reduceLT → sK, reduceLE → sL, reduceNeg → sM, reduceToNat → sN, reduceEq → sO
set_option maxHeartbeats 8000000
set_option maxRecDepth 100000
theorem nil_agg {θ : Nat → Loc} {M : Nat → Prop} {w : World} {xs : List AV} {v : Value} (h : ARel θ M w (.agg (xs ++ [.p (.val (.slice none 0 0)), .p (.val (.slice none 0 0))])) v) : ARel θ M w (.agg (xs ++ [.p (.sl []), .p (.sl [])])) v := by
  cases h with
  | agg _ vs hs hone hr =>
    refine .agg _ vs (by simpa using hs) (fun i hi => ?_) (fun i x hx => ?_)
    · exact hone i (by simpa using hi)
    · by_cases h1 : i < xs.length
      · rw [List.getElem?_append_left h1] at hx
        exact hr i x (by rw [List.getElem?_append_left h1]; exact hx)
      · rw [List.getElem?_append_right (by omega)] at hx
        have h2 : ∀ y, [AV.p (PV.val (Value.slice none 0 0)), AV.p (PV.val (Value.slice none 0 0))][i - xs.length]? = some y → ARel θ M w y (vs.getD i undef) := fun y hy => hr i y (by rw [List.getElem?_append_right (by omega)]; exact hy)
        generalize i - xs.length = j at hx h2
        match j, hx with
        | 0, hx =>
          cases hx
          rw [rel_nilslice (h2 _ rfl)]; exact .p _ _ .nil
        | 1, hx =>
          cases hx
          rw [rel_nilslice (h2 _ rfl)]; exact .p _ _ .nil
theorem PCall.of_nil_agg {P : Program} {f : FuncId} {xs : List AV} {res : AV} (h : PCall P f [.agg (xs ++ [.p (.sl []), .p (.sl [])])] res) : PCall P f [.agg (xs ++ [.p (.val (.slice none 0 0)), .p (.val (.slice none 0 0))])] res :=
  ⟨h.1, fun θ M w vs hM hsz hrel => h.2 θ M w vs hM (by simpa using hsz) fun j x hj => by
    match j, hj with
    | 0, hj => cases hj; exact nil_agg (hrel 0 _ rfl)⟩
abbrev b0 : Acc := ⟨4, 100, 1000, 300, [⟨0, 20⟩, ⟨3, 30⟩], [⟨0, 0, 40, 42, 0⟩, ⟨1, 1, 0, 0, 200⟩, ⟨2, 2, 10, 10, 0⟩, ⟨0, 3, 20, 20, 0⟩, ⟨3, 0, 0, 0, 820⟩]⟩
abbrev b1 : Acc := ⟨4, 100, 1000, 300, [⟨0, 20⟩, ⟨3, 30⟩], [⟨0, 0, 40, 42, 0⟩, ⟨1, 1, 0, 0, 200⟩, ⟨2, 2, 10, 10, 0⟩, ⟨0, 3, 20, 20, 0⟩, ⟨3, 0, 0, 0, 830⟩]⟩
abbrev bz : Acc := ⟨4, 100, 1000, 300, [⟨0, 20⟩, ⟨3, 30⟩], [⟨0, 0, 40, 42, 0⟩, ⟨1, 1, 0, 0, 200⟩, ⟨2, 2, 10, 10, 0⟩, ⟨0, 3, 20, 20, 0⟩]⟩
abbrev bp : Acc := ⟨4, 100, 1000, 0, [⟨0, 20⟩, ⟨3, 30⟩], [⟨0, 0, 40, 42, 0⟩, ⟨1, 1, 0, 0, 200⟩, ⟨2, 2, 10, 10, 0⟩, ⟨0, 3, 20, 20, 0⟩]⟩
abbrev bL : Acc := ⟨4, 100, 1000, 300, [⟨0, 20⟩, ⟨3, 30⟩], [⟨0, 0, 40, 42, 0⟩, ⟨1, 1, 0, 0, 200⟩, ⟨2, 2, 10, 10, 0⟩, ⟨0, 3, 20, 20, 0⟩, ⟨2, 2, 33, 33, 0⟩]⟩
abbrev bk : Acc := ⟨4, 100, 1000, 300, [⟨0, 20⟩, ⟨3, 30⟩], [⟨4, 0, 40, 42, 0⟩, ⟨1, 1, 0, 0, 200⟩, ⟨2, 2, 10, 10, 0⟩, ⟨0, 3, 20, 20, 0⟩]⟩
abbrev bd : Acc := ⟨4, 100, 1000, 300, [⟨0, 20⟩, ⟨3, 30⟩], [⟨0, 0, 40, 42, 0⟩, ⟨1, 1, 0, 0, 0⟩, ⟨2, 2, 10, 10, 0⟩, ⟨0, 3, 20, 20, 0⟩]⟩
abbrev bb : Acc := ⟨4, 100, 1000, 300, [⟨0, 20⟩, ⟨3, 30⟩], [⟨0, 0, 40, 42, 0⟩, ⟨1, 1, 0, 0, 200⟩, ⟨2, 2, 10, 11, 0⟩, ⟨0, 3, 20, 20, 0⟩]⟩
abbrev br : Acc := ⟨4, 100, 1000, 300, [⟨0, 20⟩, ⟨0, 30⟩], [⟨0, 0, 40, 42, 0⟩, ⟨1, 1, 0, 0, 200⟩, ⟨2, 2, 10, 10, 0⟩, ⟨0, 3, 20, 20, 0⟩]⟩
abbrev bf : Acc := ⟨4, 100, 1000, 300, [⟨0, 20⟩, ⟨3, 30⟩], [⟨0, 5, 40, 42, 0⟩, ⟨1, 1, 0, 0, 200⟩, ⟨2, 2, 10, 10, 0⟩, ⟨0, 3, 20, 20, 0⟩]⟩
abbrev bm : Acc := ⟨4, 100, 1000, 300, [⟨0, 20⟩, ⟨3, 30⟩], [⟨0, 0, 0, 0, 0⟩, ⟨0, 0, 0, 0, 0⟩, ⟨0, 0, 0, 0, 0⟩, ⟨0, 0, 0, 0, 0⟩, ⟨0, 0, 0, 0, 0⟩, ⟨0, 0, 0, 0, 0⟩, ⟨0, 0, 0, 0, 0⟩, ⟨0, 0, 0, 0, 0⟩, ⟨0, 0, 0, 0, 0⟩]⟩
abbrev bw : Acc := ⟨4, 100, 1000, 300, [⟨0, 20⟩, ⟨3, 30⟩], [⟨0, 0, 0, 50, 0⟩, ⟨0, 0, 0, 50, 0⟩]⟩
abbrev be : Acc := ⟨0, 0, 0, 0, [], []⟩
theorem f21a : FCall Go.Proofs.Try.prog 21 [avA b0, isl [41, 0, 10, 20, 0]] (.tup [isl [820, 629, 436, 1041, 1052], i64 0]) := by
  have h := c21f b0 [41, 0, 10, 20, 0] (by decide) (by decide) (by decide) (by decide)
  have e : playA b0 [41, 0, 10, 20, 0] = .tup [isl [820, 629, 436, 1041, 1052], i64 0] := by kernel_rfl
  rw [e] at h; exact h
theorem f21b : FCall Go.Proofs.Try.prog 21 [avA bz, isl [43, 0, 10, 20]] (.tup [nilS, i64 2]) := by
  have h := c21f bz [43, 0, 10, 20] (by decide) (by decide) (by decide) (by decide)
  have e : playA bz [43, 0, 10, 20] = .tup [nilS, i64 2] := by kernel_rfl
  rw [e] at h; exact h
theorem f21c : FCall Go.Proofs.Try.prog 21 [avA bz, isl [40, 0, 10]] (.tup [nilS, i64 2]) := by
  have h := c21f bz [40, 0, 10] (by decide) (by decide) (by decide) (by decide)
  have e : playA bz [40, 0, 10] = .tup [nilS, i64 2] := by kernel_rfl
  rw [e] at h; exact h
theorem f21d : FCall Go.Proofs.Try.prog 21 [avA b1, isl [40, 0, 10, 20, 0]] (.tup [nilS, i64 11]) := by
  have h := c21f b1 [40, 0, 10, 20, 0] (by decide) (by decide) (by decide) (by decide)
  have e : playA b1 [40, 0, 10, 20, 0] = .tup [nilS, i64 11] := by kernel_rfl
  rw [e] at h; exact h
theorem f30a : PCall Go.Proofs.Try.prog 30 [avA b0] (.tup [.p (.sl [[iv 820, iv 820], [iv 629, iv 629], [iv 436, iv 436], [iv 1041, iv 1041], [iv 1052, iv 1052]]), i64 0]) := by
  have h := c30 b0 (by decide) (by decide) (by decide)
  have e : boundsA b0 = .tup [.p (.sl [[iv 820, iv 820], [iv 629, iv 629], [iv 436, iv 436], [iv 1041, iv 1041], [iv 1052, iv 1052]]), i64 0] := by kernel_rfl
  rw [e] at h; exact h
theorem f30b : PCall Go.Proofs.Try.prog 30 [avA b1] (.tup [nilS, i64 9]) := by
  have h := c30 b1 (by decide) (by decide) (by decide)
  have e : boundsA b1 = .tup [nilS, i64 9] := by kernel_rfl
  rw [e] at h; exact h
theorem f42a : PCall Go.Proofs.Try.prog 42 [avA bz] (.tup [nilS, i64 0]) := by
  have h := c42 bz (by decide) (by decide) (by decide)
  have e : leaveA bz = .tup [nilS, i64 0] := by kernel_rfl
  rw [e] at h; exact h
theorem f37a : PCall Go.Proofs.Try.prog 37 [avA b1] (.tup [nilS, i64 9]) := by
  have h := c37 b1 (by decide) (by decide) (by decide)
  have e : paysA b1 = .tup [nilS, i64 9] := by kernel_rfl
  rw [e] at h; exact h
theorem f37b : PCall Go.Proofs.Try.prog 37 [avA bp] (.tup [nilS, i64 10]) := by
  have h := c37 bp (by decide) (by decide) (by decide)
  have e : paysA bp = .tup [nilS, i64 10] := by kernel_rfl
  rw [e] at h; exact h
theorem f31a : PCall Go.Proofs.Try.prog 31 [avA bL] (.tup [i64 0, i64 9]) := by
  have h := c31 bL (by decide) (by decide) (by decide)
  have e : keptA bL = .tup [i64 0, i64 9] := by kernel_rfl
  rw [e] at h; exact h
theorem f38a : PCall Go.Proofs.Try.prog 38 [avA bz, isl [], i64 9] (bl false) := by
  have h := c38 bz [] 9 (by decide) (by decide) (by decide) (by decide)
  have e : provesA bz [] 9 = false := by kernel_rfl
  rw [e] at h; exact h
theorem f38b : PCall Go.Proofs.Try.prog 38 [avA bz, isl [3], i64 0] (bl false) := by
  have h := c38 bz [3] 0 (by decide) (by decide) (by decide) (by decide)
  have e : provesA bz [3] 0 = false := by kernel_rfl
  rw [e] at h; exact h
theorem f38c : PCall Go.Proofs.Try.prog 38 [avA bz, isl [4], i64 9] (bl false) := by
  have h := c38 bz [4] 9 (by decide) (by decide) (by decide) (by decide)
  have e : provesA bz [4] 9 = false := by kernel_rfl
  rw [e] at h; exact h
theorem f38d : PCall Go.Proofs.Try.prog 38 [avA bz, isl [3, 3], i64 9] (bl false) := by
  have h := c38 bz [3, 3] 9 (by decide) (by decide) (by decide) (by decide)
  have e : provesA bz [3, 3] 9 = false := by kernel_rfl
  rw [e] at h; exact h
theorem f38e : PCall Go.Proofs.Try.prog 38 [avA bz, isl [2], i64 1] (bl true) := by
  have h := c38 bz [2] 1 (by decide) (by decide) (by decide) (by decide)
  have e : provesA bz [2] 1 = true := by kernel_rfl
  rw [e] at h; exact h
theorem gbk : PCall Go.Proofs.Try.prog 25 [avA bk] (i64 1) := by
  have h := c25 bk (by decide) (by decide) (by decide)
  have e : faultS bk = 1 := by kernel_rfl
  rw [e] at h; exact h
theorem gbd : PCall Go.Proofs.Try.prog 25 [avA bd] (i64 1) := by
  have h := c25 bd (by decide) (by decide) (by decide)
  have e : faultS bd = 1 := by kernel_rfl
  rw [e] at h; exact h
theorem gbb : PCall Go.Proofs.Try.prog 25 [avA bb] (i64 1) := by
  have h := c25 bb (by decide) (by decide) (by decide)
  have e : faultS bb = 1 := by kernel_rfl
  rw [e] at h; exact h
theorem gbr : PCall Go.Proofs.Try.prog 25 [avA br] (i64 1) := by
  have h := c25 br (by decide) (by decide) (by decide)
  have e : faultS br = 1 := by kernel_rfl
  rw [e] at h; exact h
theorem gbf : PCall Go.Proofs.Try.prog 25 [avA bf] (i64 1) := by
  have h := c25 bf (by decide) (by decide) (by decide)
  have e : faultS bf = 1 := by kernel_rfl
  rw [e] at h; exact h
theorem gbm : PCall Go.Proofs.Try.prog 25 [avA bm] (i64 3) := by
  have h := c25 bm (by decide) (by decide) (by decide)
  have e : faultS bm = 3 := by kernel_rfl
  rw [e] at h; exact h
theorem gbw : PCall Go.Proofs.Try.prog 25 [avA bw] (i64 3) := by
  have h := c25 bw (by decide) (by decide) (by decide)
  have e : faultS bw = 3 := by kernel_rfl
  rw [e] at h; exact h
theorem gbe : PCall Go.Proofs.Try.prog 25 [avA be] (i64 0) := by
  have h := c25 be (by decide) (by decide) (by decide)
  have e : faultS be = 0 := by kernel_rfl
  rw [e] at h; exact h
theorem gbe2 : PCall Go.Proofs.Try.prog 25 [.agg [i64 0, i64 0, i64 0, i64 0, .p (.val (.slice none 0 0)), .p (.val (.slice none 0 0))]] (i64 0) := PCall.of_nil_agg (xs := [i64 0, i64 0, i64 0, i64 0]) gbe
theorem f44z : PCall Go.Proofs.Try.prog 44 [.p (.val (.slice none 0 0))] (avA bz) := PCall.of_nil 0 rfl (c44 [] (by decide))
theorem f44a : PCall Go.Proofs.Try.prog 44 [.p (.sl [[iv 3, iv 0, iv 0, iv 0, iv 820]])] (avA b0) := c44 [⟨3, 0, 0, 0, 820⟩] (by decide)
theorem f44b : PCall Go.Proofs.Try.prog 44 [.p (.sl [[iv 3, iv 0, iv 0, iv 0, iv 830]])] (avA b1) := c44 [⟨3, 0, 0, 0, 830⟩] (by decide)
theorem f44c : PCall Go.Proofs.Try.prog 44 [.p (.sl [[iv 2, iv 2, iv 33, iv 33, iv 0]])] (avA bL) := c44 [⟨2, 2, 33, 33, 0⟩] (by decide)
theorem e54n : aggEq Go.Proofs.Try.prog .neq 54 (some [1052, 1052]) (some [1052, 1052]) = some (.pure (bl false)) := by
  rw [aggEq_neq (a := [1052, 1052]) (b := [1052, 1052]) ints54 rfl (by decide) (by decide)]; rfl
theorem EO_mk33 {r : RB} {N : Nat} {s : St} {K : St → Prop} {d : Nat} {ty : TypeId} {pos : String} {after : Array Edge} {g : Option (Nat × Bool)} {l c : Operand} : EO Go.Proofs.Try.prog r N ⟨some d, .makeSlice 33 l c, ty, pos, after, g⟩ s K = EOp r.b N (some d) s K (fMk 5 40 [iv 0, iv 0, iv 0, iv 0, iv 0] (r.b + d) (ev s.t l) (ev s.t c)) :=
  EO_mk (e := 66) (z := [.int .i64 0, .int .i64 0, .int .i64 0, .int .i64 0, .int .i64 0]) (by rw [ty33]) (by rw [ty66]) (by rw [ty66]) (by rw [ty66]) (by decide) rfl (by decide) (by rw [ty66]; rfl)
theorem fMk9 {d : Nat} : fMk 5 40 [iv 0, iv 0, iv 0, iv 0, iv 0] d (i64 9) (i64 9) = some (.new (.arr 5 (bm.entries.map encE)) (.own d 9)) := rfl
theorem c7 : PCall Go.Proofs.Try.prog 7 [] (bl true) := by
  refine pcall_mk (v := []) (q := []) (N := 266) (rs := [.tmp 0]) Go.Proofs.Try.func7 rfl rfl rfl rfl rfl ?_
  refine awp_seq_k fun K1 hK1 => ?_
  refine awp_ops ?_
  simp (disch := omega) only [amL, sA]
  refine hK1 _ ?_
  refine awp_seq_k fun K2 hK2 => ?_
  refine awp_pure 1 ?_
  simp (disch := omega) only [ELp_0, ELp_s, EKp_mk, EPb_bs, EPp_new, amL, amT, sA, sB, sC, sE, ↓reduceIte, reduceCtorEq]
  repeat' first | (refine EC_intro (by kernel_rfl) rfl (by first | exact f44z | exact f44a | exact f44b | exact f44c) (by first | exact .inl rfl | exact .inr (.inl rfl)) ?_ ; simp (disch := omega) only [amL, amT, sA, sB, sE, sF, ↓reduceIte, reduceCtorEq]) | (refine EF_intro (by kernel_rfl) rfl (by first | exact f21a | exact f21b | exact f21c | exact f21d) ?_ ; simp (disch := omega) only [amL, sA, sF, ↓reduceIte])
  refine hK2 _ ?_
  refine awp_seq_k fun K3 hK3 => ?_
  refine awp_pure 1 ?_
  simp (disch := omega) only [ELp_0, ELp_s, EKp_mk, EPb_bs, EPp_new, amL, amT, sA, sB, sC, sE, ↓reduceIte, reduceCtorEq]
  repeat' first | (refine EC_intro (by kernel_rfl) rfl (by first | exact f44z | exact f44a | exact f44b | exact f44c) (by first | exact .inl rfl | exact .inr (.inl rfl)) ?_ ; simp (disch := omega) only [amL, ↓reduceIte]) | (refine EC_intro (by kernel_rfl) rfl (by first | exact f30a | exact f30b) (by first | exact .inl rfl | exact .inr (.inl rfl)) ?_ ; simp (disch := omega) only [amL, sA, sF, ↓reduceIte])
  refine hK3 _ ?_
  refine awp_seq_k fun K4 hK4 => ?_
  refine awp_ops ?_
  simp (disch := omega) only [amL]
  repeat' first | (refine EC_intro (by kernel_rfl) rfl (by first | exact f44z | exact f44a | exact f44b | exact f44c) (by first | exact .inl rfl | exact .inr (.inl rfl)) ?_ ; simp (disch := omega) only [amL, ↓reduceIte]) | (refine EC_intro (by kernel_rfl) rfl (f42a) (by first | exact .inl rfl | exact .inr (.inl rfl)) ?_ ; simp (disch := omega) only [amL, sA, sF, ↓reduceIte])
  refine hK4 _ ?_
  refine awp_seq_k fun K5 hK5 => ?_
  refine awp_seq_k fun K6 hK6 => ?_
  refine awp_any2 (by kernel_rfl) (by kernel_rfl) ?_
  simp (disch := omega) only [List.append_eq, ne_eq, amL, amT, sA, sB, sF, sH, sK, sL, sN, ↓reduceIte]
  repeat' first | (refine EG_dec (fun h => ?_) (fun h => ?_) <;> simp (disch := omega) only [h, ELp_0, ELp_s, EKp_mk, EPb_bs, EPp_new, e54n, EO_mk33, fMk9, intsOf2, List.append_eq, ne_eq, amL, amT, sA, sB, sC, sD, sE, sF, sG, sH, sI, sJ, sK, sL, sM, sN, sO, ↓reduceIte, reduceCtorEq]) | (refine EG_cases (fun h => ?_) (fun h => ?_) <;> simp (disch := omega) only [h, ELp_0, ELp_s, EKp_mk, EPb_bs, EPp_new, e54n, EO_mk33, fMk9, intsOf2, List.append_eq, ne_eq, amL, amT, sA, sB, sC, sD, sE, sF, sG, sH, sI, sJ, sK, sL, sM, sN, sO, ↓reduceIte, reduceCtorEq]) | (refine EC_intro (by kernel_rfl) rfl (c45 _ _) (by first | exact .inl rfl | exact .inr (.inl rfl)) ?_ ; simp (disch := omega) only [e54n, ne_eq, amL, amT, sA, sF, ↓reduceIte]) | (refine EC_intro (by kernel_rfl) rfl (by first | exact f44z | exact f44a | exact f44b | exact f44c) (by first | exact .inl rfl | exact .inr (.inl rfl)) ?_ ; simp (disch := omega) only [amL, amT, sA, sB, sE, sF, ↓reduceIte, reduceCtorEq]) | (refine EC_intro (by kernel_rfl) rfl (by first | exact PCall.of_nil 1 rfl f38a | exact f38b | exact f38c | exact f38d | exact f38e) (by first | exact .inl rfl | exact .inr (.inl rfl)) ?_ ; simp (disch := omega) only [amL, sA, sF, ↓reduceIte])
  all_goals
   skip
   refine hK6 _ ?_
   refine awp_cond rfl (fun h => ?_) (fun h => ?_)
   ·first
    | exact Bool.noConfusion h
    |skip
     try simp only [Bool.not_eq_true', decide_eq_true_eq, decide_eq_false_iff_not, Bool.and_eq_true, Bool.not_eq_false', Bool.not_not, decide_not, Bool.not_true, Bool.not_false] at h
     refine awp_seq_k fun K7 hK7 => ?_
     refine awp_ops ?_
     simp (disch := omega) only [ELp_0, ELp_s, EKp_mk, EPb_bs, EPp_new, e54n, EO_mk33, fMk9, intsOf2, List.append_eq, ne_eq, amL, amT, sA, sB, sC, sD, sE, sF, sG, sH, sI, sJ, sK, sL, sM, sN, sO, ↓reduceIte, reduceCtorEq]
     refine hK7 _ ?_
     refine awp_ret ?_
     try simp (disch := omega) only [ELp_0, ELp_s, EKp_mk, EPb_bs, EPp_new, e54n, EO_mk33, fMk9, intsOf2, List.append_eq, ne_eq, amL, amT, sA, sB, sC, sD, sE, sF, sG, sH, sI, sJ, sK, sL, sM, sN, sO, ↓reduceIte, reduceCtorEq]
     all_goals first | rfl | (omega)
   ·first
    | exact Bool.noConfusion h
    |skip
     try simp only [] at h
     refine awp_skip ?_
     refine hK5 _ ?_
     refine awp_seq_k fun K8 hK8 => ?_
     refine awp_pure 1 ?_
     simp (disch := omega) only [ELp_0, ELp_s, EKp_mk, EPb_bs, EPp_new, amL, amT, sA, sB, sC, sE, ↓reduceIte, reduceCtorEq]
     repeat' first | (refine EC_intro (by kernel_rfl) rfl (by first | exact f44z | exact f44a | exact f44b | exact f44c) (by first | exact .inl rfl | exact .inr (.inl rfl)) ?_ ; simp (disch := omega) only [amL, amT, sA, sB, sF, ↓reduceIte])
     refine hK8 _ ?_
     refine awp_seq_k fun K9 hK9 => ?_
     refine awp_ops ?_
     simp (disch := omega) only [amL]
     repeat' first | (refine EC_intro (by kernel_rfl) rfl (by first | exact f44z | exact f44a | exact f44b | exact f44c) (by first | exact .inl rfl | exact .inr (.inl rfl)) ?_ ; simp (disch := omega) only [amL, amT, sA, sB, sE, sF, ↓reduceIte, reduceCtorEq]) | (refine EF_intro (by kernel_rfl) rfl (by first | exact f21a | exact f21b | exact f21c | exact f21d) ?_ ; simp (disch := omega) only [amL, sA, sF, ↓reduceIte])
     refine hK9 _ ?_
     refine awp_seq_k fun K10 hK10 => ?_
     refine awp_ops ?_
     simp (disch := omega) only [amL]
     repeat' first | (refine EC_intro (by kernel_rfl) rfl (by first | exact f44z | exact f44a | exact f44b | exact f44c) (by first | exact .inl rfl | exact .inr (.inl rfl)) ?_ ; simp (disch := omega) only [amL, amT, sA, sB, sE, sF, ↓reduceIte, reduceCtorEq]) | (refine EF_intro (by kernel_rfl) rfl (by first | exact f21a | exact f21b | exact f21c | exact f21d) ?_ ; simp (disch := omega) only [amL, sA, sF, ↓reduceIte])
     refine hK10 _ ?_
     refine awp_seq_k fun K11 hK11 => ?_
     refine awp_ops ?_
     simp (disch := omega) only [amL, amT, sA, sB, sE, sF, ↓reduceIte, reduceCtorEq]
     repeat' first | (refine EF_intro (by kernel_rfl) rfl (by first | exact f21a | exact f21b | exact f21c | exact f21d) ?_ ; simp (disch := omega) only [amL, sA, sF, ↓reduceIte])
     refine hK11 _ ?_
     refine awp_seq_k fun K12 hK12 => ?_
     refine awp_ops ?_
     simp (disch := omega) only [amL, amT, sA, sB, sF, ↓reduceIte]
     repeat' first | (refine EC_intro (by kernel_rfl) rfl (by first | exact f30a | exact f30b) (by first | exact .inl rfl | exact .inr (.inl rfl)) ?_ ; simp (disch := omega) only [amL, sA, sF, ↓reduceIte])
     refine hK12 _ ?_
     refine awp_seq_k fun K13 hK13 => ?_
     refine awp_ops ?_
     simp (disch := omega) only [amL, amT, sA, sB, sF, ↓reduceIte]
     repeat' first | (refine EC_intro (by kernel_rfl) rfl (by first | exact f37a | exact f37b) (by first | exact .inl rfl | exact .inr (.inl rfl)) ?_ ; simp (disch := omega) only [amL, sA, sF, ↓reduceIte])
     refine hK13 _ ?_
     refine awp_seq_k fun K14 hK14 => ?_
     refine awp_region ?_
     refine al_eo ?_
     simp (disch := omega) only [amL]
     refine EC_intro (by kernel_rfl) rfl f44z (by first | exact .inl rfl | exact .inr (.inl rfl)) ?_
     refine al_hcall h44e (by decide) (by kernel_rfl) (by rfl) (by rfl) ?_
     refine al_hcall h44e (by decide) (by kernel_rfl) (by rfl) (by rfl) ?_
     refine al_hcall h44e (by decide) (by kernel_rfl) (by rfl) (by rfl) ?_
     refine al_hcall h44r (by decide) (by kernel_rfl) (by rfl) (by rfl) ?_
     refine al_hcall h44e (by decide) (by kernel_rfl) (by rfl) (by rfl) ?_
     refine al_hcall h44e (by decide) (by kernel_rfl) (by rfl) (by rfl) ?_
     refine al_hcall h44e (by decide) (by kernel_rfl) (by rfl) (by rfl) ?_
     refine EL_sound ?_
     simp (disch := omega) only [amL, amT, sA, sB, sF, ↓reduceIte]
     refine hK14 _ ?_
     refine awp_seq_k fun K15 hK15 => ?_
     refine awp_ops ?_
     simp (disch := omega) only [amL, amT, sA, sB, sE, sF, ↓reduceIte, reduceCtorEq]
     refine hK15 _ ?_
     refine awp_seq_k fun K16 hK16 => ?_
     refine awp_ops ?_
     simp (disch := omega) only [amL, amT, sA, sB, sF, ↓reduceIte]
     repeat' first | (refine EC_intro (by kernel_rfl) rfl (by first | exact f37a | exact f37b) (by first | exact .inl rfl | exact .inr (.inl rfl)) ?_ ; simp (disch := omega) only [amL, sA, sF, ↓reduceIte])
     refine hK16 _ ?_
     refine awp_seq_k fun K17 hK17 => ?_
     refine awp_ops ?_
     simp (disch := omega) only [amL, amT, sA, sB, sE, sF, sH, sK, sL, sN, ↓reduceIte, reduceCtorEq]
     refine hK17 _ ?_
     refine awp_seq_k fun K18 hK18 => ?_
     refine awp_ops ?_
     simp (disch := omega) only [amL, amT, sA, sB, sF, sH, sK, sL, sN, ↓reduceIte, reduceCtorEq]
     refine hK18 _ ?_
     refine awp_seq_k fun K19 hK19 => ?_
     refine awp_any2 (by kernel_rfl) (by kernel_rfl) ?_
     simp (disch := omega) only [amL, amT, sA, sF, ↓reduceIte, reduceCtorEq]
     repeat' first | (refine EC_intro (by kernel_rfl) rfl (c45 _ _) (by first | exact .inl rfl | exact .inr (.inl rfl)) ?_ ; simp (disch := omega) only [amL, amT, sA, sB, sE, sF, sH, sK, sL, sN, ↓reduceIte, reduceCtorEq])
     refine hK19 _ ?_
     refine awp_seq_k fun K20 hK20 => ?_
     refine awp_ops ?_
     simp (disch := omega) only [amL, amT, sA, sB, sE, sF, sH, sK, sL, sN, ↓reduceIte, reduceCtorEq]
     refine hK20 _ ?_
     refine awp_seq_k fun K21 hK21 => ?_
     refine awp_ops ?_
     simp (disch := omega) only [amL, amT, sA, sB, sE, sF, sH, sK, sL, sN, ↓reduceIte, reduceCtorEq]
     refine hK21 _ ?_
     refine awp_seq_k fun K22 hK22 => ?_
     refine awp_ops ?_
     simp (disch := omega) only [EO_mk33, fMk9, amL, amT, sA, sB, sF, ↓reduceIte, reduceCtorEq]
     refine hK22 _ ?_
     refine awp_seq_k fun K23 hK23 => ?_
     refine awp_ops ?_
     simp (disch := omega) only [amL]
     repeat' first | (refine EC_intro (by kernel_rfl) rfl (c45 _ _) (by first | exact .inl rfl | exact .inr (.inl rfl)) ?_ ; simp (disch := omega) only [amL, amT, sA, sB, sC, sE, sF, ↓reduceIte, reduceCtorEq])
     refine hK23 _ ?_
     refine awp_seq_k fun K24 hK24 => ?_
     refine awp_pure 2 ?_
     simp (disch := omega) only [ELp_s, amL]
     repeat' first | (refine EC_intro (by kernel_rfl) rfl (c45 _ _) (by first | exact .inl rfl | exact .inr (.inl rfl)) ?_ ; simp (disch := omega) only [ELp_0, ELp_s, EKp_mk, EPb_bs, EPp_new, amL, amT, sA, sB, sC, sE, ↓reduceIte, reduceCtorEq]) | (refine EC_intro (by kernel_rfl) rfl (by first | exact f44z | exact f44a | exact f44b | exact f44c) (by first | exact .inl rfl | exact .inr (.inl rfl)) ?_ ; simp (disch := omega) only [amL, amT, sA, sB, sF, ↓reduceIte])
     refine hK24 _ ?_
     refine awp_seq_k fun K25 hK25 => ?_
     refine awp_ops ?_
     simp (disch := omega) only [amL, amT, sA, sB, ↓reduceIte]
     repeat' first | (refine EC_intro (by kernel_rfl) rfl (f31a) (by first | exact .inl rfl | exact .inr (.inl rfl)) ?_ ; simp (disch := omega) only [amL, sA, sF, ↓reduceIte])
     refine hK25 _ ?_
     refine awp_seq_k fun K26 hK26 => ?_
     refine awp_ops ?_
     simp (disch := omega) only [List.append_eq, amL, amT, sA, sB, sF, ↓reduceIte]
     repeat' first | (refine EG_dec (fun h => ?_) (fun h => ?_) <;> simp (disch := omega) only [h, ELp_0, ELp_s, EKp_mk, EPb_bs, EPp_new, e54n, EO_mk33, fMk9, intsOf2, List.append_eq, ne_eq, amL, amT, sA, sB, sC, sD, sE, sF, sG, sH, sI, sJ, sK, sL, sM, sN, sO, ↓reduceIte, reduceCtorEq]) | (refine EG_cases (fun h => ?_) (fun h => ?_) <;> simp (disch := omega) only [h, ELp_0, ELp_s, EKp_mk, EPb_bs, EPp_new, e54n, EO_mk33, fMk9, intsOf2, List.append_eq, ne_eq, amL, amT, sA, sB, sC, sD, sE, sF, sG, sH, sI, sJ, sK, sL, sM, sN, sO, ↓reduceIte, reduceCtorEq]) | (refine EC_intro (by kernel_rfl) rfl (by first | exact gbk | exact gbd | exact gbb | exact gbr | exact gbf | exact gbm | exact gbw | exact gbe2) (by first | exact .inl rfl | exact .inr (.inl rfl)) ?_ ; simp (disch := omega) only [amL, amT, sA, sB, sF, ↓reduceIte]) | (refine EC_intro (by kernel_rfl) rfl (c20) (by first | exact .inl rfl | exact .inr (.inl rfl)) ?_ ; simp (disch := omega) only [amL, sA, sF, ↓reduceIte])
     all_goals
      skip
      refine hK26 _ ?_
      refine awp_ret ?_
      try simp (disch := omega) only [amL, ↓reduceIte]
      all_goals first | rfl | (omega)
end AM.Try
end
