/- Lemmas for the proof: an abstract machine over the program's form in Lean, and the program's functions walked on it. -/
import Derived.CallsIn
import Derived.OrdersIn
import Derived.RangeFuncIn
import Derived.Laws.World
import Derived.Laws.Cells
import Derived.Laws.CopyRow
import Derived.Laws.Append
import Derived.Laws.MakeOwn
import Derived.RangeFuncLeaves
import Derived.RangeFuncRecord
/- The abstract machine, part 1: pure values, abstract values, objects, states, and their relation to the model's worlds. -/
section
namespace AM
open Go
inductive PV where
 | val (v:Value)
 | sl (es:List (List PV))
 | ro (cs:List PV)
inductive AV where
 | p (x:PV)
 | ptr (n off:Nat)
 | eptr (n k i off:Nat)
 | own (n len:Nat)
 | csl (n off k len:Nat)
 | fn (f:Fn) (fs cs:List AV)
 | yld (n:Nat)
 | mp (n:Nat)
 | agg (cs:List AV)
 | tup (vs:List AV)
 | undef
structure D3 where
 n:Nat
 ps:List Nat
 assign:Code
 body:Code
 state:LoopState
 pending:Option Code
inductive AO where
 | cells (cs:List AV)
 | arr (k:Nat) (es:List (List PV))
 | obj (X:Obj→Prop)
 | it (n:Nat) (X:Nat→Obj→Prop)
 | loop (k:D3) (tm:List (Nat × AV))
structure Loc where
 blk:Nat
 cap:Nat
 nil:Bool
structure St where
 t:Nat→AV
 o:Nat→Option AO
inductive Cp (M:Nat→Prop) (w:World):PV→Value→Prop
 | val (v:Value) (h:v.oneCell'=true):Cp M w (.val v) v
 | nil:Cp M w (.sl []) (.slice none 0 0)
 | emp (a:Addr):Cp M w (.sl []) (.slice (some a) 0 0)
 | sl (es:List (List PV)) (b o c k:Nat) (cv:Nat→Nat→Value) (hk:∀ (i:Nat) (e:List PV),es[i]?=some e→e.length=k) (hc:es.length≤c)
   (h1:∀ (i:Nat) (e:List PV) (j:Nat) (x:PV),es[i]?=some e→e[j]?=some x→¬ M b∧w.cell? ⟨b,o+(i * k+j),none⟩=some (cv i j))
   (h2:∀ (i:Nat) (e:List PV) (j:Nat) (x:PV),es[i]?=some e→e[j]?=some x→Cp M w x (cv i j)):Cp M w (.sl es) (.slice (some ⟨b,o,none⟩) es.length c)
 | ro (cs:List PV) (b o:Nat) (cv:Nat→Value)
   (h1:∀ (j:Nat) (x:PV),cs[j]?=some x→¬ M b∧w.cell? ⟨b,o+j,none⟩=some (cv j))
   (h2:∀ (j:Nat) (x:PV),cs[j]?=some x→Cp M w x (cv j)):Cp M w (.ro cs) (.pointer (some ⟨b,o,none⟩))
theorem Cp.oneCell {M:Nat→Prop} {w:World} {x:PV} {v:Value} (h:Cp M w x v):v.oneCell'=true:=by
 cases h <;> first | assumption | rfl
structure Bx (M:Nat→Prop) (w w':World):Prop where
 size:w.heap.size≤w'.heap.size
 same:∀ b,b < w.heap.size→¬ M b→w'.heap[b]?=w.heap[b]?
 os:w'.os=w.os
 tape:w'.tape=w.tape
 output:w'.output=w.output
theorem Bx.refl (M:Nat→Prop) (w:World):Bx M w w:=⟨Nat.le_refl _,fun _ _ _=>rfl,rfl,rfl,rfl⟩
theorem Bx.trans {M M':Nat→Prop} {w w' w'':World} (h:Bx M w w') (h':Bx M' w' w'') (hM:∀ b,b < w.heap.size→M' b→M b):Bx M w w'':=
 ⟨Nat.le_trans h.size h'.size,fun b hb hm=>(h'.same b (Nat.lt_of_lt_of_le hb h.size) (fun h=>hm (hM b hb h))).trans (h.same b hb hm),
  h'.os.trans h.os,h'.tape.trans h.tape,h'.output.trans h.output⟩
theorem Bx.mono {M M':Nat→Prop} {w w':World} (h:Bx M w w') (hM:∀ b,M b→M' b):Bx M' w w':=
 ⟨h.size,fun b hb hm=>h.same b hb (fun h=>hm (hM b h)),h.os,h.tape,h.output⟩
theorem Sd {w w':World} {a:Addr} (h:w'.heap[a.block]?=w.heap[a.block]?):w'.cell? a=w.cell? a:=by simp [World.cell?,h]
theorem Cp.mono {M M':Nat→Prop} {w w':World} (hw:∀ b,b < w.heap.size→¬ M b→w'.heap[b]?=w.heap[b]?) (hM:∀ b,b < w.heap.size→M' b→M b)
  {x:PV} {v:Value} (h:Cp M w x v):Cp M' w' x v:=by
 induction h with
 | val v h=>exact .val v h
 | nil=>exact .nil
 | emp a=>exact .emp a
 | sl es b o c k cv hk hc h1 _ ih=>
  refine .sl es b o c k cv hk hc (fun i e j x hi hj=>?_) (fun i e j x hi hj=>ih i e j x hi hj)
  obtain ⟨hm,hcell⟩:=h1 i e j x hi hj
  have hb:b < w.heap.size:=World.block_lt_of_cell? w _ hcell
  exact ⟨fun h=>hm (hM b hb h),by rw [Sd (hw b hb hm)]; exact hcell⟩
 | ro cs b o cv h1 _ ih=>
  refine .ro cs b o cv (fun j x hj=>?_) (fun j x hj=>ih j x hj)
  obtain ⟨hm,hcell⟩:=h1 j x hj
  have hb:b < w.heap.size:=World.block_lt_of_cell? w _ hcell
  exact ⟨fun h=>hm (hM b hb h),by rw [Sd (hw b hb hm)]; exact hcell⟩
inductive Ar (θ:Nat→Loc) (M:Nat→Prop) (w:World):AV→Value→Prop
 | p (x:PV) (v:Value) (h:Cp M w x v):Ar θ M w (.p x) v
 | ptr (n off:Nat):Ar θ M w (.ptr n off) (.pointer (some ⟨(θ n).blk,off,none⟩))
 | eptr (n k i off:Nat):Ar θ M w (.eptr n k i off) (.pointer (some ⟨(θ n).blk,i * k+off,none⟩))
 | own (n len:Nat) (h0:(θ n).nil=false) (h:len≤(θ n).cap):Ar θ M w (.own n len) (.slice (some ⟨(θ n).blk,0,none⟩) len (θ n).cap)
 | ownNil (n:Nat) (h0:(θ n).nil=true):Ar θ M w (.own n 0) (.slice none 0 0)
 | csl (n off k len cap:Nat) (h:len≤cap):Ar θ M w (.csl n off k len) (.slice (some ⟨(θ n).blk,off,none⟩) len cap)
 | fn (f:Fn) (fs cs:List AV) (vf vc:Array Value) (hf:vf.size=fs.length) (hc:vc.size=cs.length)
   (h1:∀ (i:Nat) (x:AV),fs[i]?=some x→Ar θ M w x (vf.getD i undef)) (h2:∀ (i:Nat) (x:AV),cs[i]?=some x→Ar θ M w x (vc.getD i undef)):Ar θ M w (.fn f fs cs) (.func f vf vc)
 | yld (n:Nat):Ar θ M w (.yld n) (.func (.yield (θ n).blk) #[] #[])
 | mp (n:Nat):Ar θ M w (.mp n) (.map (some (θ n).blk))
 | agg (cs:List AV) (vs:Array Value) (hs:vs.size=cs.length) (ho:∀ i,i < cs.length→(vs.getD i undef).oneCell'=true)
   (h:∀ (i:Nat) (x:AV),cs[i]?=some x→Ar θ M w x (vs.getD i undef)):Ar θ M w (.agg cs) (.agg vs)
 | tup (cs:List AV) (vs:Array Value) (hs:vs.size=cs.length) (h:∀ (i:Nat) (x:AV),cs[i]?=some x→Ar θ M w x (vs.getD i undef)):Ar θ M w (.tup cs) (.tuple vs)
 | undef (v:Value):Ar θ M w .undef v
theorem Ar.mono {θ:Nat→Loc} {M M':Nat→Prop} {w w':World} (hw:∀ b,b < w.heap.size→¬ M b→w'.heap[b]?=w.heap[b]?) (hM:∀ b,b < w.heap.size→M' b→M b)
  {x:AV} {v:Value} (h:Ar θ M w x v):Ar θ M' w' x v:=by
 induction h with
 | p x v h=>exact .p x v (h.mono hw hM)
 | ptr n off=>exact .ptr n off
 | eptr n k i off=>exact .eptr n k i off
 | own n len h0 h=>exact .own n len h0 h
 | ownNil n h0=>exact .ownNil n h0
 | csl n off k len cap h=>exact .csl n off k len cap h
 | fn f fs cs vf vc hf hc _ _ ih1 ih2=>exact .fn f fs cs vf vc hf hc ih1 ih2
 | yld n=>exact .yld n
 | mp n=>exact .mp n
 | agg cs vs hs ho _ ih=>exact .agg cs vs hs ho ih
 | tup cs vs hs _ ih=>exact .tup cs vs hs ih
 | undef v=>exact .undef v
def Pv (θ:Nat→Loc) (M:Nat→Prop) (w:World) (l:Loc):AO→Prop
 | .cells cs=>l.nil=false∧∃ cur e,w.heap[l.blk]?=some (.cells cur e (0,0))∧cur.size=cs.length∧(∀ i,i < cs.length→(cur.getD i undef).oneCell'=true) ∧
   ∀ (i:Nat) (x:AV),cs[i]?=some x→Ar θ M w x (cur.getD i undef)
 | .arr k es=>(∀ (i:Nat) (e:List PV),es[i]?=some e→e.length=k)∧((l.nil=true∧es=[])∨(l.nil=false∧es.length≤l.cap∧∃ cur e,w.heap[l.blk]?=some (.cells cur e (0,0))∧cur.size=l.cap * k ∧
   (∀ i,i < cur.size→(cur.getD i undef).oneCell'=true) ∧
   ∀ (i:Nat) (e:List PV) (j:Nat) (x:PV),es[i]?=some e→e[j]?=some x→Cp M w x (cur.getD (i * k+j) undef)))
 | .obj X=>l.nil=false∧∃ ob,w.heap[l.blk]?=some ob∧X ob
 | .it n X=>l.nil=false∧∃ ob,w.heap[l.blk]?=some ob∧X (θ n).blk ob
 | .loop k tm=>l.nil=false∧∃ fn tmps D,w.heap[l.blk]?=some (.loop { state:=k.state,pending:=k.pending,fn,tmps,params:=k.ps.toArray,assign:=k.assign,body:=k.body,defers:=D })∧k.n≤tmps.size ∧
   ∀ (i:Nat) (p:Nat × AV),tm[i]?=some p→Ar θ M w p.2 (tmps.getD p.1 undef)
def AV.clean (n:Nat):AV→Bool
 | .p _=>true
 | .ptr m _=>m != n
 | .eptr m _ _ _=>m != n
 | .own m _=>m != n
 | .csl m _ _ _=>m != n
 | .fn _ fs cs=>cleanL n fs&&cleanL n cs
 | .yld m=>m != n
 | .mp m=>m != n
 | .agg cs=>cleanL n cs
 | .tup cs=>cleanL n cs
 | .undef=>true
 where cleanL (n:Nat):List AV→Bool
 | []=>true
 | x :: r=>x.clean n&&cleanL n r
theorem B0 (n:Nat) (l:List AV):AV.clean.cleanL n l=true↔∀ (i:Nat) (x:AV),l[i]?=some x→x.clean n=true:=by
 induction l with
 | nil=>simp [AV.clean.cleanL]
 | cons y r ih=>
  simp only [AV.clean.cleanL,Bool.and_eq_true,ih]
  constructor
  ·rintro ⟨h1,h2⟩ i x hx
   cases i with
   | zero=>simp at hx; exact hx ▸ h1
   | succ i=>exact h2 i x (by simpa using hx)
  ·intro h
   exact ⟨h 0 y (by simp),fun i x hx=>h (i+1) x (by simpa using hx)⟩
def Fj (θ:Nat→Loc) (n:Nat) (l:Loc):Nat→Loc:=fun m=>if m=n then l else θ m
theorem Bb {θ:Nat→Loc} {n m:Nat} {l:Loc} (h:m≠n):Fj θ n l m=θ m:=by simp [Fj,h]
@[simp] theorem Fx (θ:Nat→Loc) (n:Nat) (l:Loc):Fj θ n l n=l:=by simp [Fj]
theorem Ar.rename {θ:Nat→Loc} {M:Nat→Prop} {w:World} {n:Nat} {l:Loc} {x:AV} {v:Value} (h:Ar θ M w x v):x.clean n=true→Ar (Fj θ n l) M w x v:=by
 induction h with
 | p x v h=>exact fun _=>.p x v h
 | ptr m off=>intro hc; have:=Ar.ptr (θ:=Fj θ n l) (M:=M) (w:=w) m off; rwa [Bb (by simpa [AV.clean] using hc)] at this
 | eptr m k i off=>intro hc; have:=Ar.eptr (θ:=Fj θ n l) (M:=M) (w:=w) m k i off; rwa [Bb (by simpa [AV.clean] using hc)] at this
 | own m len h0 h=>
  intro hc
  have e:Fj θ n l m=θ m:=Bb (by simpa [AV.clean] using hc)
  have:=Ar.own (θ:=Fj θ n l) (M:=M) (w:=w) m len (by rw [e]; exact h0) (by rw [e]; exact h)
  rwa [e] at this
 | ownNil m h0=>
  intro hc
  have e:Fj θ n l m=θ m:=Bb (by simpa [AV.clean] using hc)
  exact .ownNil m (by rw [e]; exact h0)
 | csl m off k len cap h=>intro hc; have:=Ar.csl (θ:=Fj θ n l) (M:=M) (w:=w) m off k len cap h; rwa [Bb (by simpa [AV.clean] using hc)] at this
 | fn f fs cs vf vc hf hc _ _ ih1 ih2=>
  intro h
  simp only [AV.clean,Bool.and_eq_true,B0] at h
  exact .fn f fs cs vf vc hf hc (fun i x hx=>ih1 i x hx (h.1 i x hx)) (fun i x hx=>ih2 i x hx (h.2 i x hx))
 | yld m=>intro hc; have:=Ar.yld (θ:=Fj θ n l) (M:=M) (w:=w) m; rwa [Bb (by simpa [AV.clean] using hc)] at this
 | mp m=>intro hc; have:=Ar.mp (θ:=Fj θ n l) (M:=M) (w:=w) m; rwa [Bb (by simpa [AV.clean] using hc)] at this
 | agg cs vs hs ho _ ih=>
  intro h
  simp only [AV.clean,B0] at h
  exact .agg cs vs hs ho (fun i x hx=>ih i x hx (h i x hx))
 | tup cs vs hs _ ih=>
  intro h
  simp only [AV.clean,B0] at h
  exact .tup cs vs hs (fun i x hx=>ih i x hx (h i x hx))
 | undef v=>exact fun _=>.undef v
def AV.purge (n:Nat) (x:AV):AV:=if x.clean n then x else .undef
theorem AV.clean_purge (n:Nat) (x:AV):(x.purge n).clean n=true:=by
 unfold AV.purge; split
 ·assumption
 ·rfl
theorem Ar.purge {θ:Nat→Loc} {M:Nat→Prop} {w:World} {n:Nat} {x:AV} {v:Value} (h:Ar θ M w x v):Ar θ M w (x.purge n) v:=by
 unfold AV.purge; split
 ·exact h
 ·exact .undef v
def AO.purge (n:Nat):AO→AO
 | .cells cs=>.cells (cs.map (AV.purge n))
 | .arr k es=>.arr k es
 | .obj X=>.obj X
 | .it m X=>if m=n then .obj (fun o=>∃ b,X b o) else .it m X
 | .loop k tm=>.loop k (tm.map fun p=>(p.1,p.2.purge n))
def St.purge (n:Nat) (s:St):St:={ t:=fun i=>(s.t i).purge n,o:=fun m=>if m=n then none else (s.o m).map (AO.purge n) }
def AO.clean (n:Nat):AO→Bool
 | .cells cs=>AV.clean.cleanL n cs
 | .arr _ _=>true
 | .obj _=>true
 | .it m _=>m != n
 | .loop _ tm=>AV.clean.cleanL n (tm.map (·.2))
def AV.lives (os:Nat→Option AO) (x:AV):Prop:=∀ n,x.clean n=false→(os n).isSome=true
def AO.lives (os:Nat→Option AO) (x:AO):Prop:=∀ n,x.clean n=false→(os n).isSome=true
theorem AV.lives_p (os:Nat→Option AO) (x:PV):(AV.p x).lives os:=by intro n h; simp [AV.clean] at h
theorem AV.lives_undef (os:Nat→Option AO):(AV.undef).lives os:=by intro n h; simp [AV.clean] at h
theorem AV.lives_cells {os:Nat→Option AO} {cs:List AV}:(∀ (i:Nat) (x:AV),cs[i]?=some x→x.lives os)↔∀ n,AV.clean.cleanL n cs=false→(os n).isSome=true:=by
 constructor
 ·intro h n hn
  cases hb:(os n).isSome with
  | true=>rfl
  | false=>
   have:AV.clean.cleanL n cs=true:=(B0 n cs).2 (fun i x hx=>by
    cases hc:x.clean n with
    | true=>rfl
    | false=>have:=h i x hx n hc; rw [hb] at this; cases this)
   rw [this] at hn; cases hn
 ·intro h i x hx n hc
  refine h n ?_
  cases hl:AV.clean.cleanL n cs with
  | false=>rfl
  | true=>have:=(B0 n cs).1 hl i x hx; rw [this] at hc; cases hc
theorem AV.lives_agg {os:Nat→Option AO} {cs:List AV}:(AV.agg cs).lives os↔∀ (i:Nat) (x:AV),cs[i]?=some x→x.lives os:=AV.lives_cells.symm
theorem AV.lives_tup {os:Nat→Option AO} {cs:List AV}:(AV.tup cs).lives os↔∀ (i:Nat) (x:AV),cs[i]?=some x→x.lives os:=AV.lives_cells.symm
theorem AO.lives_cells {os:Nat→Option AO} {cs:List AV}:(AO.cells cs).lives os↔∀ (i:Nat) (x:AV),cs[i]?=some x→x.lives os:=AV.lives_cells.symm
theorem AO.lives_obj (os:Nat→Option AO) (X:Obj→Prop):(AO.obj X).lives os:=by intro n h; simp [AO.clean] at h
theorem AO.lives_it {os:Nat→Option AO} {m:Nat} {X:Nat→Obj→Prop}:(AO.it m X).lives os↔(os m).isSome=true:=
 ⟨fun h=>h m (by simp [AO.clean]),fun h n hn=>by simp only [AO.clean,bne_eq_false_iff_eq] at hn; subst hn; exact h⟩
theorem AO.lives_arr (os:Nat→Option AO) (k:Nat) (es:List (List PV)):(AO.arr k es).lives os:=by intro n h; simp [AO.clean] at h
theorem AV.lives_mono {os os':Nat→Option AO} (h:∀ n,(os n).isSome=true→(os' n).isSome=true) {x:AV} (hx:x.lives os):x.lives os':=fun n hn=>h n (hx n hn)
theorem AO.lives_mono {os os':Nat→Option AO} (h:∀ n,(os n).isSome=true→(os' n).isSome=true) {x:AO} (hx:x.lives os):x.lives os':=fun n hn=>h n (hx n hn)
theorem AO.lives_loop {os:Nat→Option AO} {k:D3} {tm:List (Nat × AV)}:(AO.loop k tm).lives os↔∀ (i:Nat) (p:Nat × AV),tm[i]?=some p→p.2.lives os:=by
 have e:(AO.loop k tm).lives os↔(AO.cells (tm.map (·.2))).lives os:=Iff.rfl
 rw [e,AO.lives_cells]
 constructor
 ·intro h i p hp; exact h i p.2 (by simp [hp])
 ·intro h i x hx
  simp only [List.getElem?_map,Option.map_eq_some_iff] at hx
  obtain ⟨p,hp,rfl⟩:=hx
  exact h i p hp
def St.closed (s:St):Prop:=(∀ i,(s.t i).lives s.o)∧∀ m o,s.o m=some o→o.lives s.o
def upd {α:Type} (f:Nat→α) (d:Nat) (x:α):Nat→α:=fun i=>if i=d then x else f i
@[simp] theorem Dm {α:Type} (f:Nat→α) (d:Nat) (x:α):upd f d x d=x:=by simp [upd]
theorem Ao {α:Type} {f:Nat→α} {d i:Nat} {x:α} (h:i≠d):upd f d x i=f i:=by simp [upd,h]
def St.put (s:St) (d:Option Nat) (x:AV):St:=match d with
 | some d=>{ s with t:=upd s.t d x }
 | none=>s
def St.setO (s:St) (n:Nat) (o:AO):St:={ s with o:=upd s.o n (some o) }
structure Av (N B:Nat) (S:Nat→Prop) (θ:Nat→Loc) (M:Nat→Prop) (w:World) (st:St) (a:Act):Prop where
 size:N≤a.tmps.size
 tm:∀ i,Ar θ M w (st.t i) (a.tmps.getD i undef)
 ob:∀ n o,st.o n=some o→Pv θ M w (θ n) o
 lv:∀ n o,st.o n=some o→(θ n).nil=false→M (θ n).blk∧(B≤(θ n).blk∨S (θ n).blk)
 inj:∀ n m,(st.o n).isSome=true→(st.o m).isSome=true→(θ n).nil=false→(θ m).nil=false→(θ n).blk=(θ m).blk→n=m
 base:B≤w.heap.size
 mlt:∀ b,M b→b < w.heap.size
 cl:st.closed
def Adv (nb N B:Nat) (S:Nat→Prop) (θ:Nat→Loc) (M:Nat→Prop) (w:World) (st':St) (a':Act) (w':World):Prop:=
 ∃ θ' M',Av N B S θ' M' w' st' a'∧Bx (fun b=>B≤b∨S b) w w'∧(∀ n,n < nb→θ' n=θ n)∧(∀ b,b < B→M b→M' b)
theorem Adv.refl {nb N B:Nat} {S:Nat→Prop} {θ:Nat→Loc} {M:Nat→Prop} {w:World} {st:St} {a:Act} (h:Av N B S θ M w st a):Adv nb N B S θ M w st a w:=
 ⟨θ,M,h,Bx.refl _ _,fun _ _=>rfl,fun _ _ h=>h⟩
theorem Adv.trans {nb N B:Nat} {S:Nat→Prop} {θ θ':Nat→Loc} {M M':Nat→Prop} {w w' w'':World} {st'':St} {a'':Act}
  (h1:Bx (fun b=>B≤b∨S b) w w') (h2:∀ n,n < nb→θ' n=θ n) (h3:∀ b,b < B→M b→M' b) (h:Adv nb N B S θ' M' w' st'' a'' w''):Adv nb N B S θ M w st'' a'' w'':=by
 obtain ⟨θ2,M2,hs,hk,ht,hm⟩:=h
 exact ⟨θ2,M2,hs,h1.trans hk (fun _ _ h=>h),fun n hn=>(ht n hn).trans (h2 n hn),fun b hb h=>hm b hb (h3 b hb h)⟩
section
variable {nb N B:Nat} {S:Nat→Prop} {θ:Nat→Loc} {M:Nat→Prop} {w:World} {st:St} {a:Act}
theorem Y9 {tmps:Array Value} {d i:Nat} {v:Value}:(tmps.setIfInBounds d v).getD i undef=if i=d∧d < tmps.size then v else tmps.getD i undef:=by
 simp only [Array.getD_eq_getD_getElem?,Array.getElem?_setIfInBounds]
 by_cases h:d=i
 ·subst h
  by_cases hd:d < tmps.size
  ·simp [hd]
  ·simp [hd]
 ·have h':¬ i=d:=fun e=>h e.symm
  simp [h,h']
theorem Av.put (h:Av N B S θ M w st a) {d:Option Nat} (hd:∀ k,d=some k→k < N) {x:AV} {v:Value} (hx:Ar θ M w x v) (hl:x.lives st.o):Av N B S θ M w (st.put d x) (a.put d v):=by
 cases d with
 | none=>exact h
 | some d=>
  have hdN:=hd d rfl
  have hsz:=h.size
  refine ⟨by simpa [Act.put] using h.size,fun i=>?_,h.ob,h.lv,h.inj,h.base,h.mlt,?_⟩
  ·simp only [St.put,Act.put,Y9]
   by_cases hi:i=d
   ·subst hi
    rw [if_pos ⟨rfl,by omega⟩,Dm]
    exact hx
   ·rw [if_neg (fun e=>hi e.1),Ao hi]
    exact h.tm i
  ·refine ⟨fun i=>?_,h.cl.2⟩
   simp only [St.put]
   by_cases hi:i=d
   ·subst hi; rw [Dm]; exact hl
   ·rw [Ao hi]; exact h.cl.1 i
theorem Adv.put (h:Av N B S θ M w st a) {d:Option Nat} (hd:∀ k,d=some k→k < N) {x:AV} {v:Value} (hx:Ar θ M w x v) (hl:x.lives st.o):Adv nb N B S θ M w (st.put d x) (a.put d v) w:=
 Adv.refl (h.put hd hx hl)
theorem St.purge_o_same (s:St) (n:Nat):(s.purge n).o n=none:=by simp [St.purge]
theorem St.purge_o_other (s:St) {n m:Nat} (h:m≠n):(s.purge n).o m=(s.o m).map (AO.purge n):=by simp [St.purge,h]
theorem AV.lives_purge {os os':Nat→Option AO} {n:Nat} (h:∀ m,m≠n→(os m).isSome=true→(os' m).isSome=true) {x:AV} (hx:x.lives os):(x.purge n).lives os':=by
 unfold AV.purge
 split
 ·rename_i hc
  intro m hm
  by_cases e:m=n
  ·subst e; rw [hc] at hm; cases hm
  ·exact h m e (hx m hm)
 ·exact AV.lives_undef _
theorem AO.lives_purge {os os':Nat→Option AO} {n:Nat} (h:∀ m,m≠n→(os m).isSome=true→(os' m).isSome=true) {x:AO} (hx:x.lives os):(x.purge n).lives os':=by
 cases x with
 | arr k es=>exact AO.lives_arr _ _ _
 | obj X=>exact AO.lives_obj _ _
 | it k X=>
  rw [AO.lives_it] at hx
  simp only [AO.purge]
  split
  ·exact AO.lives_obj _ _
  ·rename_i e; exact AO.lives_it.2 (h k e hx)
 | loop k tm=>
  rw [AO.lives_loop] at hx
  rw [AO.purge,AO.lives_loop]
  intro i p hi
  simp only [List.getElem?_map,Option.map_eq_some_iff] at hi
  obtain ⟨q,hq,rfl⟩:=hi
  exact AV.lives_purge h (hx i q hq)
 | cells cs=>
  rw [AO.lives_cells] at hx
  rw [AO.purge,AO.lives_cells]
  intro i x hi
  simp only [List.getElem?_map,Option.map_eq_some_iff] at hi
  obtain ⟨y,hy,rfl⟩:=hi
  exact AV.lives_purge h (hx i y hy)
theorem Pv.purge {l:Loc} {o:AO} {n:Nat} (h:Pv θ M w l o):Pv θ M w l (o.purge n):=by
 cases o with
 | arr k es=>exact h
 | obj X=>exact h
 | it m X=>
  obtain ⟨h0,ob,h1,h2⟩:=h
  simp only [AO.purge]
  split
  ·exact ⟨h0,ob,h1,_,h2⟩
  ·exact ⟨h0,ob,h1,h2⟩
 | loop k tm=>
  obtain ⟨h0,fn,tmps,D,hb,hn,hx⟩:=h
  refine ⟨h0,fn,tmps,D,hb,hn,fun i p hi=>?_⟩
  simp only [List.getElem?_map,Option.map_eq_some_iff] at hi
  obtain ⟨q,hq,rfl⟩:=hi
  exact (hx i q hq).purge
 | cells cs=>
  obtain ⟨h0,cur,e,hb,hs,ho,hx⟩:=h
  refine ⟨h0,cur,e,hb,by simpa using hs,fun i hi=>ho i (by simpa using hi),fun i x hi=>?_⟩
  simp only [List.getElem?_map,Option.map_eq_some_iff] at hi
  obtain ⟨y,hy,rfl⟩:=hi
  exact (hx i y hy).purge
theorem Av.purge (h:Av N B S θ M w st a) (n:Nat):Av N B S θ M w (st.purge n) a:=by
 have hsome:∀ m,((st.purge n).o m).isSome=true→(st.o m).isSome=true:=by
  intro m hm
  by_cases e:m=n
  ·subst e; rw [St.purge_o_same] at hm; cases hm
  ·rw [St.purge_o_other st e,Option.isSome_map] at hm; exact hm
 have hob:∀ m o,(st.purge n).o m=some o→m≠n∧∃ o',st.o m=some o'∧o=o'.purge n:=by
  intro m o hm
  by_cases e:m=n
  ·subst e; rw [St.purge_o_same] at hm; cases hm
  ·rw [St.purge_o_other st e,Option.map_eq_some_iff] at hm
   obtain ⟨o',h1,h2⟩:=hm
   exact ⟨e,o',h1,h2.symm⟩
 have hkeep:∀ m,m≠n→(st.o m).isSome=true→((st.purge n).o m).isSome=true:=fun m hm hs=>by
  rw [St.purge_o_other st hm,Option.isSome_map]; exact hs
 refine ⟨h.size,fun i=>(h.tm i).purge,fun m o hm=>?_,fun m o hm=>?_,fun m k hm hk=>h.inj m k (hsome m hm) (hsome k hk),h.base,h.mlt,fun i=>?_,fun m o hm=>?_⟩
 ·obtain ⟨_,o',h1,rfl⟩:=hob m o hm
  exact (h.ob m o' h1).purge
 ·obtain ⟨_,o',h1,rfl⟩:=hob m o hm
  exact h.lv m o' h1
 ·exact AV.lives_purge hkeep (h.cl.1 i)
 ·obtain ⟨_,o',h1,rfl⟩:=hob m o hm
  exact AO.lives_purge hkeep (h.cl.2 m o' h1)
theorem Pv.mono {θ':Nat→Loc} {M':Nat→Prop} {w':World} {l:Loc} {o:AO} (hb:l.nil=false→w'.heap[l.blk]?=w.heap[l.blk]?)
  (h:Pv θ M w l o)
  (hx:∀ (x:AV) (v:Value),Ar θ M w x v→(∀ n,x.clean n=false→o.clean n=false)→Ar θ' M' w' x v) (hp:∀ x v,Cp M w x v→Cp M' w' x v):Pv θ' M' w' l o:=by
 cases o with
 | cells cs=>
  obtain ⟨h0,cur,e,hc,hs,ho,hr⟩:=h
  refine ⟨h0,cur,e,by rw [hb h0]; exact hc,hs,ho,fun i x hi=>hx x _ (hr i x hi) (fun n hn=>?_)⟩
  simp only [AO.clean]
  cases hl:AV.clean.cleanL n cs with
  | false=>rfl
  | true=>have:=(B0 n cs).1 hl i x hi; rw [this] at hn; cases hn
 | obj X=>
  obtain ⟨h0,ob,h1,h2⟩:=h
  exact ⟨h0,ob,by rw [hb h0]; exact h1,h2⟩
 | it m X=>
  obtain ⟨h0,ob,h1,h2⟩:=h
  have h3:=hx (.ptr m 0) _ (.ptr m 0) (fun n hn=>hn)
  have e:(θ' m).blk=(θ m).blk:=by
   generalize hv:Value.pointer (some ⟨(θ m).blk,0,none⟩)=v at h3
   cases h3 with
   | ptr=>injection hv with hv; injection hv with hv; injection hv with hv; exact hv.symm
  exact ⟨h0,ob,by rw [hb h0]; exact h1,by rw [e]; exact h2⟩
 | loop k tm=>
  obtain ⟨h0,fn,tmps,D,h1,h2,hr⟩:=h
  refine ⟨h0,fn,tmps,D,by rw [hb h0]; exact h1,h2,fun i p hi=>hx p.2 _ (hr i p hi) (fun n hn=>?_)⟩
  simp only [AO.clean]
  cases hl:AV.clean.cleanL n (tm.map (·.2)) with
  | false=>rfl
  | true=>have:=(B0 n _).1 hl i p.2 (by simp [hi]); rw [this] at hn; cases hn
 | arr k es=>
  obtain ⟨hk,h⟩:=h
  refine ⟨hk,?_⟩
  rcases h with h | ⟨h0,hl,cur,e,hc,hs,ho,hr⟩
  ·exact .inl h
  ·exact .inr ⟨h0,hl,cur,e,by rw [hb h0]; exact hc,hs,ho,fun i e j x hi hj=>hp x _ (hr i e j x hi hj)⟩
theorem clean_of_free {os:Nat→Option AO} {n:Nat} (hn:os n=none) {x:AV} (hx:x.lives os):x.clean n=true:=by
 cases hc:x.clean n with
 | true=>rfl
 | false=>have:=hx n hc; rw [hn] at this; cases this
theorem AO.clean_of_free {os:Nat→Option AO} {n:Nat} (hn:os n=none) {x:AO} (hx:x.lives os):x.clean n=true:=by
 cases hc:x.clean n with
 | true=>rfl
 | false=>have:=hx n hc; rw [hn] at this; cases this
theorem Av.new (h:Av N B S θ M w st a) {d:Nat} (hfree:st.o d=none) {w':World} {l:Loc} {o:AO} (hsz:w.heap.size≤w'.heap.size)
  (hk:∀ b,b < w.heap.size→w'.heap[b]?=w.heap[b]?) (hl:l.nil=false→w.heap.size≤l.blk∧l.blk < w'.heap.size)
  (ho:Pv (Fj θ d l) (fun b=>M b∨(l.nil=false∧b=l.blk)) w' l o) (hol:o.lives (upd st.o d (some o))) :
  Av N B S (Fj θ d l) (fun b=>M b∨(l.nil=false∧b=l.blk)) w' (st.setO d o) a:=by
 have hM:∀ b,b < w.heap.size→(M b∨(l.nil=false∧b=l.blk))→M b:=fun b hb hm=>hm.elim id (fun e=>by have:=(hl e.1).1; omega)
 have hmono:∀ n,(st.o n).isSome=true→((st.setO d o).o n).isSome=true:=fun n hn=>by
  simp only [St.setO]; by_cases e:n=d
  ·subst e; simp
  ·rw [Ao e]; exact hn
 have hv:∀ (x:AV) (v:Value),x.clean d=true→Ar θ M w x v→Ar (Fj θ d l) (fun b=>M b∨(l.nil=false∧b=l.blk)) w' x v:=fun x v hc hr=>
  (hr.mono (fun b hb _=>hk b hb) hM).rename hc
 have hold:∀ m o',st.o m=some o'→m≠d:=fun m o' hm e=>by subst e; rw [hfree] at hm; cases hm
 have hcase:∀ m o',(st.setO d o).o m=some o'→(m=d∧o'=o)∨(m≠d∧st.o m=some o'):=fun m o' hm=>by
  simp only [St.setO] at hm; by_cases e:m=d
  ·subst e; rw [Dm] at hm; exact .inl ⟨rfl,(Option.some.inj hm).symm⟩
  ·rw [Ao e] at hm; exact .inr ⟨e,hm⟩
 refine ⟨h.size,fun i=>hv _ _ (clean_of_free hfree (h.cl.1 i)) (h.tm i),fun m o' hm=>?_,fun m o' hm hn=>?_,fun m k hm hk' hnm hnk hb=>?_,Nat.le_trans h.base hsz,fun b hb=>?_,⟨fun i=>AV.lives_mono hmono (h.cl.1 i),fun m o' hm=>?_⟩⟩
 ·rcases hcase m o' hm with ⟨rfl,rfl⟩ | ⟨e,hm⟩
  ·rw [Fx]; exact ho
  ·rw [Bb e]
   refine (h.ob m o' hm).mono (fun hn=>hk _ (h.mlt _ (h.lv m o' hm hn).1)) (fun x v hr hc=>hv x v ?_ hr) (fun x v hp=>hp.mono (fun b hb _=>hk b hb) hM)
   cases hx:x.clean d with
   | true=>rfl
   | false=>have:=AO.clean_of_free hfree (h.cl.2 m o' hm); rw [hc d hx] at this; cases this
 ·rcases hcase m o' hm with ⟨rfl,rfl⟩ | ⟨e,hm⟩
  ·rw [Fx] at hn ⊢
   exact ⟨.inr ⟨hn,rfl⟩,.inl (Nat.le_trans h.base (hl hn).1)⟩
  ·rw [Bb e] at hn ⊢
   exact ⟨.inl (h.lv m o' hm hn).1,(h.lv m o' hm hn).2⟩
 ·have lt:∀ j,j≠d→((st.setO d o).o j).isSome=true→(θ j).nil=false→(θ j).blk < w.heap.size∧(st.o j).isSome=true:=fun j e hj hn=>by
   simp only [St.setO] at hj; rw [Ao e] at hj
   obtain ⟨oj,hoj⟩:=Option.isSome_iff_exists.1 hj
   exact ⟨h.mlt _ (h.lv j oj hoj hn).1,hj⟩
  by_cases em:m=d
  ·by_cases ek:k=d
   ·rw [em,ek]
   ·subst em
    rw [Fx] at hnm hb
    rw [Bb ek] at hnk hb
    have:=(lt k ek hk' hnk).1
    have:=(hl hnm).1
    omega
  ·by_cases ek:k=d
   ·subst ek
    rw [Fx] at hnk hb
    rw [Bb em] at hnm hb
    have:=(lt m em hm hnm).1
    have:=(hl hnk).1
    omega
   ·rw [Bb em] at hnm hb
    rw [Bb ek] at hnk hb
    exact h.inj m k (lt m em hm hnm).2 (lt k ek hk' hnk).2 hnm hnk hb
 ·rcases hb with hb | ⟨hn,rfl⟩
  ·exact Nat.lt_of_lt_of_le (h.mlt b hb) hsz
  ·exact (hl hn).2
 ·rcases hcase m o' hm with ⟨rfl,rfl⟩ | ⟨e,hm⟩
  ·exact hol
  ·exact AO.lives_mono hmono (h.cl.2 m o' hm)
theorem Av.upd (h:Av N B S θ M w st a) {n:Nat} {o o':AO} (hn:st.o n=some o) (hnil:(θ n).nil=false) {w':World} (hsz:w'.heap.size=w.heap.size)
  (hk:∀ b,b≠(θ n).blk→w'.heap[b]?=w.heap[b]?) (ho:Pv θ M w' (θ n) o') (hol:o'.lives st.o):Av N B S θ M w' (st.setO n o') a:=by
 have hMn:M (θ n).blk:=(h.lv n o hn hnil).1
 have hw:∀ b,b < w.heap.size→¬ M b→w'.heap[b]?=w.heap[b]?:=fun b _ hm=>hk b (fun e=>hm (e ▸ hMn))
 have hsome:∀ m,((st.setO n o').o m).isSome=(st.o m).isSome:=fun m=>by
  simp only [St.setO]; by_cases e:m=n
  ·subst e; simp [hn]
  ·rw [Ao e]
 have hcase:∀ m o2,(st.setO n o').o m=some o2→(m=n∧o2=o')∨(m≠n∧st.o m=some o2):=fun m o2 hm=>by
  simp only [St.setO] at hm; by_cases e:m=n
  ·subst e; rw [Dm] at hm; exact .inl ⟨rfl,(Option.some.inj hm).symm⟩
  ·rw [Ao e] at hm; exact .inr ⟨e,hm⟩
 have hmono:∀ m,(st.o m).isSome=true→((st.setO n o').o m).isSome=true:=fun m hm=>by rw [hsome]; exact hm
 refine ⟨h.size,fun i=>(h.tm i).mono hw (fun _ _ h=>h),fun m o2 hm=>?_,fun m o2 hm hmn=>?_,fun m k hm hk'=>h.inj m k (by rwa [hsome] at hm) (by rwa [hsome] at hk'),by rw [hsz]; exact h.base,fun b hb=>by rw [hsz]; exact h.mlt b hb,
  ⟨fun i=>AV.lives_mono hmono (h.cl.1 i),fun m o2 hm=>?_⟩⟩
 ·rcases hcase m o2 hm with ⟨rfl,rfl⟩ | ⟨e,hm⟩
  ·exact ho
  ·exact (h.ob m o2 hm).mono (fun hmn=>hk _ (fun eb=>e (h.inj m n (by simp [hm]) (by simp [hn]) hmn hnil eb))) (fun x v hr _=>hr.mono hw (fun _ _ h=>h)) (fun x v hp=>hp.mono hw (fun _ _ h=>h))
 ·rcases hcase m o2 hm with ⟨rfl,rfl⟩ | ⟨e,hm⟩
  ·exact h.lv m o hn hmn
  ·exact h.lv m o2 hm hmn
 ·rcases hcase m o2 hm with ⟨rfl,rfl⟩ | ⟨e,hm⟩
  ·exact AO.lives_mono hmono hol
  ·exact AO.lives_mono hmono (h.cl.2 m o2 hm)
theorem Av.place (h:Av N B S θ M w st a) {d:Nat} (hfree:st.o d=none) {w':World} {l:Loc} {o:AO} (hsz:w'.heap.size=w.heap.size)
  (hk:∀ b,b≠l.blk→w'.heap[b]?=w.heap[b]?) (hM:M l.blk) (hB:B≤l.blk∨S l.blk) (hne:∀ m o,st.o m=some o→(θ m).nil=false→(θ m).blk≠l.blk)
  (ho:Pv (Fj θ d l) M w' l o) (hol:o.lives (AM.upd st.o d (some o))):Av N B S (Fj θ d l) M w' (st.setO d o) a:=by
 have hw:∀ b,b < w.heap.size→¬ M b→w'.heap[b]?=w.heap[b]?:=fun b _ hm=>hk b (fun e=>hm (e ▸ hM))
 have hmono:∀ n,(st.o n).isSome=true→((st.setO d o).o n).isSome=true:=fun n hn=>by
  simp only [St.setO]; by_cases e:n=d
  ·subst e; simp
  ·rw [Ao e]; exact hn
 have hv:∀ (x:AV) (v:Value),x.clean d=true→Ar θ M w x v→Ar (Fj θ d l) M w' x v:=fun x v hc hr=>(hr.mono hw (fun _ _ h=>h)).rename hc
 have hcase:∀ m o',(st.setO d o).o m=some o'→(m=d∧o'=o)∨(m≠d∧st.o m=some o'):=fun m o' hm=>by
  simp only [St.setO] at hm; by_cases e:m=d
  ·subst e; rw [Dm] at hm; exact .inl ⟨rfl,(Option.some.inj hm).symm⟩
  ·rw [Ao e] at hm; exact .inr ⟨e,hm⟩
 refine ⟨h.size,fun i=>hv _ _ (clean_of_free hfree (h.cl.1 i)) (h.tm i),fun m o' hm=>?_,fun m o' hm hn=>?_,fun m k hm hk' hnm hnk hb=>?_,by rw [hsz]; exact h.base,fun b hb=>by rw [hsz]; exact h.mlt b hb,⟨fun i=>AV.lives_mono hmono (h.cl.1 i),fun m o' hm=>?_⟩⟩
 ·rcases hcase m o' hm with ⟨rfl,rfl⟩ | ⟨e,hm⟩
  ·rw [Fx]; exact ho
  ·rw [Bb e]
   refine (h.ob m o' hm).mono (fun hn=>hk _ (hne m o' hm hn)) (fun x v hr hc=>hv x v ?_ hr) (fun x v hp=>hp.mono hw (fun _ _ h=>h))
   cases hx:x.clean d with
   | true=>rfl
   | false=>have:=AO.clean_of_free hfree (h.cl.2 m o' hm); rw [hc d hx] at this; cases this
 ·rcases hcase m o' hm with ⟨rfl,rfl⟩ | ⟨e,hm⟩
  ·rw [Fx] at hn ⊢
   exact ⟨hM,hB⟩
  ·rw [Bb e] at hn ⊢
   exact h.lv m o' hm hn
 ·have old:∀ j,j≠d→((st.setO d o).o j).isSome=true→∃ oj,st.o j=some oj:=fun j e hj=>by
   simp only [St.setO] at hj; rw [Ao e] at hj
   exact Option.isSome_iff_exists.1 hj
  by_cases em:m=d
  ·by_cases ek:k=d
   ·rw [em,ek]
   ·obtain ⟨ok,hok⟩:=old k ek hk'
    subst em
    rw [Fx] at hnm hb
    rw [Bb ek] at hnk hb
    exact absurd hb.symm (hne k ok hok hnk)
  ·obtain ⟨om,hom⟩:=old m em hm
   by_cases ek:k=d
   ·subst ek
    rw [Fx] at hnk hb
    rw [Bb em] at hnm hb
    exact absurd hb (hne m om hom hnm)
   ·obtain ⟨ok,hok⟩:=old k ek hk'
    rw [Bb em] at hnm hb
    rw [Bb ek] at hnk hb
    exact h.inj m k (by simp [hom]) (by simp [hok]) hnm hnk hb
 ·rcases hcase m o' hm with ⟨rfl,rfl⟩ | ⟨e,hm⟩
  ·exact hol
  ·exact AO.lives_mono hmono (h.cl.2 m o' hm)
theorem Bx.of_upd {n:Nat} {o:AO} (h:Av N B S θ M w st a) (hn:st.o n=some o) (hnil:(θ n).nil=false) {w':World} (hsz:w'.heap.size=w.heap.size)
  (hk:∀ b,b≠(θ n).blk→w'.heap[b]?=w.heap[b]?) (h1:w'.os=w.os) (h2:w'.tape=w.tape) (h3:w'.output=w.output):Bx (fun b=>B≤b∨S b) w w':=
 ⟨Nat.le_of_eq hsz.symm,fun b _ hb=>hk b (fun e=>hb (e ▸ (h.lv n o hn hnil).2)),h1,h2,h3⟩
theorem Bx.alloc (X:Nat→Prop) (w:World) (o:Obj):Bx X w (w.alloc o):=
 ⟨by simp,fun b hb _=>by simp only [World.alloc]; rw [Array.getElem?_push,if_neg (by omega)],rfl,rfl,rfl⟩
theorem Bx.drew (X:Nat→Prop) (w:World):Bx X w w.drew:=⟨Nat.le_refl _,fun _ _ _=>rfl,rfl,rfl,rfl⟩
theorem Cp.drew {x:PV} {v:Value} (h:Cp M w x v):Cp M w.drew x v:=Cp.mono (w:=w) (w':=w.drew) (fun _ _ _=>rfl) (fun _ _ h=>h) h
theorem Ar.drew {x:AV} {v:Value} (h:Ar θ M w x v):Ar θ M w.drew x v:=Ar.mono (w:=w) (w':=w.drew) (fun _ _ _=>rfl) (fun _ _ h=>h) h
theorem Av.drew (h:Av N B S θ M w st a):Av N B S θ M w.drew st a:=
 ⟨h.size,fun i=>(h.tm i).drew,fun n o hn=>Pv.mono (w:=w) (w':=w.drew) (fun _=>rfl) (h.ob n o hn) (fun _ _ hr _=>hr.drew) (fun _ _ hp=>hp.drew),h.lv,h.inj,h.base,h.mlt,h.cl⟩
end
inductive TK where
 | int (k:IntKind)
 | bool
 | str
 | struct (fs:List (Nat × Nat))
 | arr (n e:Nat)
 | sl (e:Nat)
 | mp (k e:Nat)
 | other
 | bad
structure TI where
 k:TK
 sz:Nat
 bytes:Nat
 zero:List Value
def Bb8 (P:Program) (t:TypeId):Bool:=match P.underlying t with | some (.struct _) | some (.array _ _)=>true | _=>false
def Py (P:Program) (t:TypeId):List Value:=(((P.info? t).bind (·.zero)).map (·.cells.toList)).getD []
def Ab (P:Program) (t:TypeId):TI:=
 match P.info? t,P.underlying t with
 | some i,some u=>
  {k:=match u with
    | .int k=>.int k
    | .bool=>.bool
    | .string=>.str
    | .struct fs=>.struct (fs.toList.map fun f=>(f.offset,f.type))
    | .array n e=>.arr n e
    | .slice e=>.sl e
    | .map k e=>.mp k e
    | _=>.other,
   sz:=i.size,bytes:=i.bytes,zero:=Py P t }
 | _,_=>⟨.bad,0,0,[]⟩
def TI.agg (i:TI):Option Bool:=match i.k with | .struct _ | .arr _ _=>some true | .bad=>none | _=>some false
inductive Eff where
 | pure (x:AV)
 | new (o:AO) (x:AV)
 | upd (n:Nat) (o:AO)
 | app (n:Nat) (o:AO) (x:AV)
def Eff.apply (nb:Nat) (dst:Option Nat):Eff→St→Option St
 | .pure x,s=>some (s.put dst x)
 | .new o x,s=>match dst with
  | some d=>if (s.o (nb+d)).isNone then some ((s.setO (nb+d) o).put dst x) else none
  | none=>none
 | .upd n o,s=>some ((s.setO n o).put dst .undef)
 | .app n o x,s=>match dst with
  | some d=>if ((s.purge n).o (nb+d)).isNone then some (((s.purge n).setO (nb+d) o).put dst x) else none
  | none=>none
def AV.cs?:AV→Option (List AV)
 | .agg cs=>some cs
 | .tup _=>none
 | .undef=>none
 | x=>some [x]
def AV.pv?:AV→Option PV
 | .p x=>some x
 | _=>none
def Lv:List AV→Option (List PV)
 | []=>some []
 | x :: r=>match x.pv?,Lv r with | some y,some ys=>some (y :: ys) | _,_=>none
def Ay (agg:Bool) (sz:Nat) (cs:List AV):Option AV:=
 if agg then (if sz≤cs.length then some (.agg (cs.take sz)) else none) else cs.head?
def Bd {α:Type} (cs:List α) (off:Nat):List α→List α
 | []=>cs
 | v :: vs=>Bd (cs.set off v) (off+1) vs
def B4:Value→AV
 | .agg cs=>if cs.toList.all Value.oneCell' then .agg (cs.toList.map fun c=>.p (.val c)) else .undef
 | .tuple _=>.undef
 | v=>.p (.val v)
def ev (t:Nat→AV):Operand→AV
 | .tmp i=>t i
 | .const v=>B4 v
 | .global _=>.undef
 | .func f=>.fn (.func f) [] []
def PV.list?:PV→Option (List (List PV))
 | .sl es=>some es
 | .val (.slice none 0 0)=>some []
 | _=>none
def Jf {α:Type} (k:Nat):Nat→List α→List (List α)
 | 0,_=>[]
 | n+1,l=>l.take k :: Jf k n (l.drop k)
def Dd (os:Nat→Option AO):AV→Option (List (List PV))
 | .p x=>x.list?
 | .own n len=>match os n with
  | some (.arr _ es)=>if len≤es.length then some (es.take len) else none
  | _=>none
 | .csl n off k len=>match os n with
  | some (.cells cs)=>if off+len * k≤cs.length then (Lv ((cs.drop off).take (len * k))).map (Jf k len) else none
  | _=>none
 | _=>none
def Jw (op:BinOp) (k:IntKind) (a b:Int):Option Value:=
 match op with
 | .add=>some (.int k (k.wrap (a+b)))
 | .sub=>some (.int k (k.wrap (a - b)))
 | .mul=>some (.int k (k.wrap (a * b)))
 | .quo=>if b=0 then none else some (.int k (k.wrap (a.tdiv b)))
 | .rem=>if b=0 then none else some (.int k (a.tmod b))
 | .eql=>some (.bool (a == b))
 | .neq=>some (.bool (a != b))
 | .lss=>some (.bool (decide (a < b)))
 | .leq=>some (.bool (decide (a≤b)))
 | .gtr=>some (.bool (decide (b < a)))
 | .geq=>some (.bool (decide (b≤a)))
 | _=>none
def Qv (op:BinOp) (k:IntKind) (a b:Int):Option Value:=
 match op with
 | .shl=>if b < 0 then none else some (.int k (k.wrap (a * 2 ^ (min b.toNat k.bits))))
 | .shr=>if b < 0 then none else some (.int k (a.fdiv (2 ^ (min b.toNat k.bits))))
 | _=>none
def Ab7 (op:BinOp) (k:IntKind) (a b:Int):Option Value:=
 match op with
 | .and=>some (.int k (k.wrap (BitVec.ofInt k.bits a &&& BitVec.ofInt k.bits b).toNat))
 | .or=>some (.int k (k.wrap (BitVec.ofInt k.bits a ||| BitVec.ofInt k.bits b).toNat))
 | .xor=>some (.int k (k.wrap (BitVec.ofInt k.bits a ^^^ BitVec.ofInt k.bits b).toNat))
 | _=>none
def J6 (op:BinOp):Value→Value→Option Value
 | .int k a,.int k' b=>
  match op with
  | .shl | .shr=>Qv op k a b
  | .and | .or | .xor=>if k=k' then Ab7 op k a b else none
  | _=>if k=k' then Jw op k a b else none
 | _,_=>none
def Adx (op:BinOp) (a b:Bool):Option Value:=
 match op with
 | .eql=>some (.bool (a == b))
 | .neq=>some (.bool (a != b))
 | _=>none
def Ac2:Value→Bool | .int .. | .bool _=>true | _=>false
def Adh:List AV→List AV→Option Bool
 | [],[]=>some true
 | .p (.val (.int k a)) :: r,.p (.val (.int k' b)) :: s=>if k=k' then (Adh r s).map fun c=>(a == b)&&c else none
 | .p (.val (.bool a)) :: r,.p (.val (.bool b)) :: s=>(Adh r s).map fun c=>(a == b)&&c
 | _,_=>none
def B6 (zero:List AV) (place:Nat→Option (Nat × Nat)):List (Nat × AV)→Option (List AV)
 | []=>some zero
 | (i,x) :: r=>match place i,x.cs? with
  | some (off,sz),some cs=>if cs.length=sz∧off+cs.length≤zero.length then B6 (Bd zero off cs) place r else none
  | _,_=>none
def E7 (vs:List Value):List AV:=vs.map fun v=>.p (.val v)
def Bu (k:Nat):Nat→List (Nat × AV)→Option (List (List PV))
 | _,[]=>some []
 | i,(j,x) :: r=>match x.cs?.bind Lv,Bu k (i+1) r with
  | some c,some es=>if j=i∧c.length=k then some (c :: es) else none
  | _,_=>none
def Bv (ρ:Operand→AV) (dflt:Nat):Option Operand→Option Int
 | none=>some dflt
 | some x=>match ρ x with
  | .p (.val (.int .i64 n))=>some n
  | _=>none
def Cn (f:Int→Int→Int):List AV→Option Value
 | .p (.val (.int k n)) :: r=>(go k n r).map fun m=>.int k m
 | _=>none
 where go (k:IntKind):Int→List AV→Option Int
 | n,[]=>some n
 | n,.p (.val (.int k' m)) :: r=>if k=k' then go k (f n m) r else none
 | _,_=>none
def Ck:List AV→Option (List Int)
 | []=>some []
 | .p (.val (.int .i64 n)) :: r=>(Ck r).map (n :: ·)
 | _=>none
def inR (n:Int):Bool:=decide (-9223372036854775808≤n)&&decide (n≤9223372036854775807)
def Nf (P:Program) (t:TypeId) (n:Nat):Prop:=P.eqGuardType P.depth t=false∧∀ (a b:List Int),a.length=n→b.length=n→a.all inR=true→b.all inR=true→∀ w,
 (Op.equal t (.agg (a.map (Value.int .i64)).toArray) (.agg (b.map (Value.int .i64)).toArray)).run P w=.ok (decide (a=b)) w
open Classical in
noncomputable def Gd (P:Program) (op:BinOp) (t:TypeId):Option (List Int)→Option (List Int)→Option Eff
 | some a,some b=>if Nf P t a.length∧a.length=b.length∧a.all inR=true∧b.all inR=true then
   match op with
   | .eql=>some (.pure (.p (.val (.bool (decide (a=b))))))
   | .neq=>some (.pure (.p (.val (.bool (!decide (a=b))))))
   | _=>none
  else none
 | _,_=>none
noncomputable def eff (P:Program) (d:Nat) (op:Op) (ρ:Operand→AV) (os:Nat→Option AO):Option Eff:=
 match op with
 | .move x=>some (.pure (ρ x))
 | .assign x=>some (.pure (ρ x))
 | .pick c a b=>match ρ c with
  | .p (.val (.bool b'))=>some (.pure (if b'=true then ρ a else ρ b))
  | _=>none
 | .alloc t=>if (Ab P t).zero.all Value.oneCell'∧(Ab P t).sz=(Ab P t).zero.length∧0 < (Ab P t).sz∧(Ab P t).agg.isSome then some (.new (.cells (E7 (Ab P t).zero)) (.ptr d 0)) else none
 | .box _ x=>(ρ x).cs?.map fun cs=>.new (.cells cs) (.ptr d 0)
 | .load t x=>match (Ab P t).agg with
  | none=>none
  | some g=>match ρ x with
   | .ptr n off=>match os n with
    | some (.cells cs)=>(Ay g (Ab P t).sz (cs.drop off)).map .pure
    | _=>none
   | .eptr n k i off=>match os n with
    | some (.arr k' es)=>if k=k'∧i < es.length then (Ay g (Ab P t).sz (((es.getD i []).drop off).map .p)).map .pure else none
    | _=>none
   | .p (.ro cs)=>(Ay g (Ab P t).sz (cs.map .p)).map .pure
   | _=>none
 | .store t x v=>match (ρ v).cs?,(Ab P t).agg with
  | some vs,some _=>if vs.length=(Ab P t).sz then
    match ρ x with
    | .ptr n off=>match os n with
     | some (.cells cs)=>if off+vs.length≤cs.length then some (.upd n (.cells (Bd cs off vs))) else none
     | _=>none
    | .eptr n k i off=>match os n,Lv vs with
     | some (.arr k' es),some ps=>if k=k'∧i < es.length∧off+ps.length≤k then some (.upd n (.arr k (es.set i (Bd (es.getD i []) off ps)))) else none
     | _,_=>none
    | _=>none
   else none
  | _,_=>none
 | .fieldAddr t x f=>match (Ab P t).k with
  | .struct fs=>match fs[f]? with
   | some (o,ft)=>if (Ab P ft).sz=0 then none else
    match ρ x with
    | .ptr n off=>some (.pure (.ptr n (off+o)))
    | .eptr n k i off=>some (.pure (.eptr n k i (off+o)))
    | .p (.ro cs)=>some (.pure (.p (.ro (cs.drop o))))
    | _=>none
   | none=>none
  | _=>none
 | .field t x f=>match (Ab P t).k,ρ x with
  | .struct fs,.agg cs=>match fs[f]? with
   | some (o,ft)=>match (Ab P ft).agg with
    | some g=>if o+(Ab P ft).sz≤cs.length then (Ay g (Ab P ft).sz (cs.drop o)).map .pure else none
    | none=>none
   | none=>none
  | _,_=>none
 | .indexAddr t x i=>match (Ab P t).k,ρ i with
  | .sl e,.p (.val (.int _ n))=>match ρ x with
   | .p (.sl es)=>if 0≤n∧n < es.length∧(es.getD n.toNat []).length=(Ab P e).sz∧(Ab P e).agg.isSome then some (.pure (.p (.ro (es.getD n.toNat [])))) else none
   | .own m len=>match os m with
    | some (.arr k es)=>if 0≤n∧n < len∧len≤es.length∧k=(Ab P e).sz∧(Ab P e).agg.isSome then some (.pure (.eptr m k n.toNat 0)) else none
    | _=>none
   | .csl m off k len=>if 0≤n∧n < len∧k=(Ab P e).sz∧(Ab P e).agg.isSome then some (.pure (.ptr m (off+n.toNat * k))) else none
   | _=>none
  | .arr len e,.p (.val (.int _ n))=>match ρ x with
   | .ptr m off=>if 0≤n∧n < len∧(Ab P e).agg.isSome then some (.pure (.ptr m (off+n.toNat * (Ab P e).sz))) else none
   | .p (.ro cs)=>if 0≤n∧n < len∧(Ab P e).agg.isSome then some (.pure (.p (.ro (cs.drop (n.toNat * (Ab P e).sz))))) else none
   | _=>none
  | _,_=>none
 | .index t x i=>match (Ab P t).k,ρ x,ρ i with
  | .arr len e,.agg cs,.p (.val (.int _ n))=>match (Ab P e).agg with
   | some g=>if 0≤n∧n < len∧n.toNat * (Ab P e).sz+(Ab P e).sz≤cs.length then (Ay g (Ab P e).sz (cs.drop (n.toNat * (Ab P e).sz))).map .pure else none
   | none=>none
  | _,_,_=>none
 | .binOp op t x y _=>match ρ x,ρ y with
  | .p (.val (.bool a)),.p (.val (.bool b))=>match (Ab P t).k with
   | .bool=>(Adx op a b).map fun v=>.pure (.p (.val v))
   | _=>none
  | .p (.val a),.p (.val b)=>(J6 op a b).map fun v=>.pure (.p (.val v))
  | .agg cs,.agg ds=>Gd P op t (Ck cs) (Ck ds)
  | _,_=>none
 | .unOp op _ x=>match op,ρ x with
  | .not,.p (.val (.bool b))=>some (.pure (.p (.val (.bool !b))))
  | .neg,.p (.val (.int k n))=>some (.pure (.p (.val (.int k (k.wrap (0 - n))))))
  | _,_=>none
 | .convert s t x=>match (Ab P t).k,ρ x with
  | .int k,.p (.val (.int _ n))=>if (Ab P s).agg.isSome then some (.pure (.p (.val (.int k (k.wrap n))))) else none
  | _,_=>none
 | .nilCheck x=>match ρ x with
  | .ptr n off=>some (.pure (.ptr n off))
  | .eptr n k i off=>some (.pure (.eptr n k i off))
  | .p (.ro cs)=>some (.pure (.p (.ro cs)))
  | _=>none
 | .makeFunc f first captured=>some (.pure (.fn f (first.toList.map ρ) (captured.toList.map ρ)))
 | .extract x i=>match ρ x with
  | .tup vs=>(vs[i]?).map .pure
  | _=>none
 | .build t parts=>
  if (Ab P t).zero.all Value.oneCell'∧(Ab P t).sz=(Ab P t).zero.length∧0 < (Ab P t).sz then
   match (Ab P t).k with
   | .struct fs=>if fs.all (fun f=>(Ab P f.2).agg.isSome)=false then none else (B6 (E7 (Ab P t).zero) (fun i=>(fs[i]?).map fun f=>(f.1,(Ab P f.2).sz)) (parts.toList.map fun p=>(p.1,ρ p.2))).map fun cs=>.pure (.agg cs)
   | .arr _ e=>if (Ab P e).agg.isSome=false then none else (B6 (E7 (Ab P t).zero) (fun i=>some (i * (Ab P e).sz,(Ab P e).sz)) (parts.toList.map fun p=>(p.1,ρ p.2))).map fun cs=>.pure (.agg cs)
   | _=>none
  else none
 | .buildSlice t len parts=>match (Ab P t).k with
  | .sl e=>match Bu (Ab P e).sz 0 (parts.toList.map fun p=>(p.1,ρ p.2)) with
   | some es=>if es.length=len∧(Ab P e).agg.isSome∧len * (Ab P e).sz≤16777216∧(len=0∨((Ab P e).sz=(Ab P e).zero.length∧0 < (Ab P e).sz)) then some (.new (.arr (Ab P e).sz es) (.own d len)) else none
   | none=>none
  | _=>none
 | .makeSlice t l c=>match (Ab P t).k,ρ l,ρ c with
  | .sl e,.p (.val (.int .i64 n)),.p (.val (.int .i64 m))=>
   if n=m∧0≤n∧n≤4611686018427387904∧(Ab P e).bytes * n≤281474976710656∧(Ab P e).zero.all Value.oneCell'∧(Ab P e).sz=(Ab P e).zero.length∧0 < (Ab P e).sz∧(Ab P e).agg.isSome then
    some (.new (.arr (Ab P e).sz (List.replicate n.toNat ((Ab P e).zero.map .val))) (.own d n.toNat)) else none
  | _,_,_=>none
 | .slice t x lo hi none=>match (Ab P t).k with
  | .sl e=>match (ρ x).pv?.bind PV.list?,Bv ρ 0 lo with
   | some es,some l=>match Bv ρ es.length hi with
    | some h=>if 0≤l∧l≤h∧h≤es.length∧(Ab P e).agg.isSome∧(es.all fun c=>c.length=(Ab P e).sz) then some (.pure (.p (.sl ((es.take h.toNat).drop l.toNat)))) else none
    | none=>none
   | _,_=>none
  | .arr len e=>match ρ x,Bv ρ 0 lo,Bv ρ len hi with
   | .ptr n off,some l,some h=>if 0≤l∧l≤h∧h≤len∧(Ab P e).agg.isSome∧l < len then some (.pure (.csl n (off+l.toNat * (Ab P e).sz) (Ab P e).sz (h - l).toNat)) else none
   | _,_,_=>none
  | _=>none
 | .slice t x lo (some hi) (some mx)=>match (Ab P t).k with
  | .sl e=>match (ρ x).pv?.bind PV.list?,Bv ρ 0 lo,Bv ρ 0 (some hi),Bv ρ 0 (some mx) with
   | some es,some l,some h,some m=>if 0≤l∧l≤h∧h≤m∧m≤es.length∧(Ab P e).agg.isSome∧(es.all fun c=>c.length=(Ab P e).sz) then some (.pure (.p (.sl ((es.take h.toNat).drop l.toNat)))) else none
   | _,_,_,_=>none
  | _=>none
 | .call c=>match c.callee with
  | .builtin .len=>match c.argTypes.toList,c.args.toList with
   | [t],[x]=>match (Ab P t).k with
    | .sl _=>match ρ x with
     | .own _ len=>some (.pure (.p (.val (.int .i64 len))))
     | .csl _ _ _ len=>some (.pure (.p (.val (.int .i64 len))))
     | .p x=>x.list?.map fun es=>.pure (.p (.val (.int .i64 es.length)))
     | _=>none
    | .arr n _=>some (.pure (.p (.val (.int .i64 n))))
    | _=>none
   | _,_=>none
  | .builtin .min=>(Cn (fun x y=>if y < x then y else x) (c.args.toList.map ρ)).map fun v=>.pure (.p (.val v))
  | .builtin .max=>(Cn (fun x y=>if x < y then y else x) (c.args.toList.map ρ)).map fun v=>.pure (.p (.val v))
  | .builtin .append=>match c.argTypes.toList,c.args.toList with
   | [t,t'],[s,x]=>match (Ab P t).k,(Ab P t').k with
    | .sl e,.sl _=>match Dd os (ρ x) with
     | some xs=>if (Ab P e).agg.isSome∧(xs.all fun c=>c.length=(Ab P e).sz)∧(Ab P e).sz=(Ab P e).zero.length∧0 < (Ab P e).sz∧(Ab P e).zero.all Value.oneCell' then
      match ρ s with
      | .p (.val (.slice none 0 0))=>if xs.length * (Ab P e).bytes≤140737488355328∧xs.length≤9223372036854775807 then some (.new (.arr (Ab P e).sz xs) (.own d xs.length)) else none
      | .own n len=>match os n with
       | some (.arr k es)=>if k=(Ab P e).sz∧len=es.length∧(es.length+xs.length) * (Ab P e).bytes≤140737488355328∧es.length+xs.length≤9223372036854775807 then some (.app n (.arr k (es++xs)) (.own d (len+xs.length))) else none
       | _=>none
      | _=>none
      else none
     | none=>none
    | _,_=>none
   | _,_=>none
  | _=>none
 | _=>none
def Bae (P:Program) (o:Oper) (a:Act) (w:World) (v:Value) (w':World):Prop:=
 (execOp a.eval o).run P w=.ok (.value v) w'∨((execOp a.eval o).run P w=.ok .skip w'∧v=undef)
def Dr (P:Program) (nb N B:Nat) (S:Nat→Prop) (θ:Nat→Loc) (M:Nat→Prop) (w:World) (st':St) (o:Oper) (a:Act):Prop:=
 ∃ v w',Bae P o a w v w'∧Adv nb N B S θ M w st' (a.put o.dst v) w'
section
variable {P:Program} {nb N B:Nat} {S:Nat→Prop} {θ:Nat→Loc} {M:Nat→Prop} {w:World} {st:St} {a:Act} {o:Oper}
theorem Fk (b off j:Nat):(⟨b,off,none⟩:Addr).add j=⟨b,off+j,none⟩:=by unfold Addr.add; split <;> simp_all
theorem Ach {x:AV} {v:Value} (h:Ar θ M w x v) {cs:List AV} (hc:x.cs?=some cs):v.cells.size=cs.length∧(∀ i,i < cs.length→(v.cells.getD i undef).oneCell'=true) ∧
  ∀ (i:Nat) (y:AV),cs[i]?=some y→Ar θ M w y (v.cells.getD i undef):=by
 have one:∀ (x:AV) (v:Value),Ar θ M w x v→v.oneCell'=true→v.cells=#[v]→x.cs?=some [x]→x.cs?=some cs→v.cells.size=cs.length∧(∀ i,i < cs.length→(v.cells.getD i undef).oneCell'=true) ∧
   ∀ (i:Nat) (y:AV),cs[i]?=some y→Ar θ M w y (v.cells.getD i undef):=by
  intro x v hr h1 h2 h3 h4
  rw [h3] at h4
  have h4:=Option.some.inj h4
  subst h4
  rw [h2]
  refine ⟨rfl,fun i hi=>?_,fun i y hy=>?_⟩
  ·have:i=0:=by simp at hi; exact hi
   subst this; simpa using h1
  ·cases i with
   | zero=>simp at hy; subst hy; simpa using hr
   | succ i=>simp at hy
 have cells1:∀ v:Value,v.oneCell'=true→v.cells=#[v]:=fun v hv=>by cases v <;> first | rfl | simp [Value.oneCell'] at hv
 cases h with
 | p x v h=>exact one _ _ (.p x v h) h.oneCell (cells1 _ h.oneCell) rfl hc
 | ptr n off=>exact one _ _ (.ptr n off) rfl rfl rfl hc
 | eptr n k i off=>exact one _ _ (.eptr n k i off) rfl rfl rfl hc
 | own n len h0 h=>exact one _ _ (.own n len h0 h) rfl rfl rfl hc
 | ownNil n h0=>exact one _ _ (.ownNil n h0) rfl rfl rfl hc
 | csl n off k len cap h=>exact one _ _ (.csl n off k len cap h) rfl rfl rfl hc
 | fn f fs cs' vf vc hf hc' h1 h2=>exact one _ _ (.fn f fs cs' vf vc hf hc' h1 h2) rfl rfl rfl hc
 | yld n=>exact one _ _ (.yld n) rfl rfl rfl hc
 | mp n=>exact one _ _ (.mp n) rfl rfl rfl hc
 | agg cs' vs hs ho h=>
  simp only [AV.cs?,Option.some.injEq] at hc
  subst hc
  exact ⟨hs,ho,h⟩
 | tup cs' vs hs h=>simp [AV.cs?] at hc
 | undef v=>simp [AV.cs?] at hc
theorem Nd {os:Nat→Option AO} {x:AV} {cs:List AV} (hx:x.lives os) (hc:x.cs?=some cs):∀ (i:Nat) (y:AV),cs[i]?=some y→y.lives os:=by
 cases x <;> simp only [AV.cs?,Option.some.injEq] at hc <;> first
  | (subst hc; intro i y hy; cases i with
    | zero=>simp at hy; subst hy; exact hx
    | succ i=>simp at hy)
  | (subst hc; exact AV.lives_agg.1 hx)
  | cases hc
theorem A0 (h:Av N B S θ M w st a) (x:Operand):Ar θ M w (ev st.t x) (a.eval x):=by
 cases x with
 | tmp i=>exact h.tm i
 | const v=>
  simp only [ev,Act.eval]
  cases v <;> first
   | exact .p _ _ (.val _ rfl)
   | skip
  ·rename_i cs
   simp only [B4]
   split
   ·rename_i hc
    refine .agg _ cs (by simp) (fun i hi=>?_) (fun i x hi=>?_)
    ·simp at hi
     have:=List.all_eq_true.1 hc cs[i] (by simp)
     simpa [hi] using this
    ·simp only [List.getElem?_map,Option.map_eq_some_iff] at hi
     obtain ⟨y,hy,rfl⟩:=hi
     have hm:=List.mem_of_getElem? hy
     have h1:=List.all_eq_true.1 hc y hm
     have:cs.getD i undef=y:=by
      have hy':cs[i]?=some y:=by simpa using hy
      simp [Array.getD_eq_getD_getElem?,hy']
     rw [this]
     exact .p _ _ (.val _ h1)
   ·exact .undef _
  ·exact .undef _
 | global g=>exact .undef _
 | func f=>exact .fn _ [] [] #[] #[] rfl rfl (fun i x h=>by simp at h) (fun i x h=>by simp at h)
theorem Cr (h:Av N B S θ M w st a) (x:Operand):(ev st.t x).lives st.o:=by
 cases x with
 | tmp i=>exact h.cl.1 i
 | const v=>
  simp only [ev]
  cases v <;> first
   | exact AV.lives_p _ _
   | skip
  ·unfold B4
   dsimp only
   split
   ·rw [AV.lives_agg]
    intro i x hi
    simp only [List.getElem?_map,Option.map_eq_some_iff] at hi
    obtain ⟨y,hy,rfl⟩:=hi
    exact AV.lives_p _ _
   ·exact AV.lives_undef _
  ·exact AV.lives_undef _
 | global g=>exact AV.lives_undef _
 | func f=>intro n hn; simp [ev,AV.clean,AV.clean.cleanL] at hn
theorem Te {s:Sem Value} {v:Value} {w':World} (hs:s.run P w=.ok v w'):(do pure (Next.value (← s)):Sem Next).run P w=.ok (.value v) w':=by simp [hs]
theorem Cc (h:Av N B S θ M w st a) (hd:∀ k,o.dst=some k→k < N) {x:AV} {v:Value} (hr:(execOp a.eval o).run P w=.ok (.value v) w) (hx:Ar θ M w x v) (hl:x.lives st.o) :
  Dr P nb N B S θ M w (st.put o.dst x) o a:=⟨v,w,.inl hr,Adv.put h hd hx hl⟩
theorem Ls {t:TypeId} (h:∀ k,(Ab P t).k=k→k≠.bad):∃ i u,P.info? t=some i∧P.underlying t=some u:=by
 have h:=h _ rfl
 cases hi:P.info? t with
 | none=>simp [Ab,hi] at h
 | some i=>
  cases hu:P.underlying t with
  | none=>simp [Ab,hi,hu] at h
  | some u=>exact ⟨i,u,rfl,rfl⟩
theorem Nl {t:TypeId} {k:TK} (h:(Ab P t).k=k) (hk:k≠.bad):∃ i u,P.info? t=some i∧P.underlying t=some u:=Ls (fun k' h'=>by rw [h] at h'; subst h'; exact hk)
theorem M4 {t:TypeId} {g:Bool} (h:(Ab P t).agg=some g):∀ k,(Ab P t).k=k→k≠.bad:=by
 intro k hk e; unfold TI.agg at h; rw [hk,e] at h; simp at h
theorem Sx {t:TypeId} {i:TypeInfo} {u:TypeDesc} (hi:P.info? t=some i) (hu:P.underlying t=some u):(Ab P t).sz=i.size∧(Ab P t).bytes=i.bytes∧(Ab P t).zero=Py P t:=by
 simp [Ab,hi,hu]
theorem Cd {t:TypeId} (h:∀ k,(Ab P t).k=k→k≠.bad):(Go.sizeOf t).run P w=.ok (Ab P t).sz w:=by
 obtain ⟨i,u,hi,hu⟩:=Ls h
 simp [Go.sizeOf,typeInfo,hi,(Sx hi hu).1]
theorem Bt {t:TypeId} {u:TypeDesc} (hu:P.underlying t=some u):(underlying t).run P w=.ok u w:=by simp [underlying,hu]
theorem Ai5 {t:TypeId} {g:Bool} (h:(Ab P t).agg=some g):∃ u,P.underlying t=some u∧(match u with | .struct _ | .array _ _=>true | _=>false)=g:=by
 obtain ⟨i,u,hi,hu⟩:=Ls (M4 h)
 refine ⟨u,hu,?_⟩
 simp only [TI.agg,Ab,hi,hu] at h
 cases u <;> simp_all
theorem Wj {t:TypeId} {g:Bool} (h:(Ab P t).agg=some g):(isAgg t).run P w=.ok g w:=by
 obtain ⟨u,hu,hg⟩:=Ai5 h
 simp only [isAgg,Sem.run_bind,Bt hu,Result.andThen_ok]
 cases u <;> simp_all
def Hl (θ:Nat→Loc) (M:Nat→Prop) (w:World) (b off:Nat) (cs:List AV):Prop:=
 ∀ (j:Nat) (x:AV),cs[j]?=some x→∃ v,w.cell? ⟨b,off+j,none⟩=some v∧v.oneCell'=true∧Ar θ M w x v
theorem Hl.drop {b off:Nat} {cs:List AV} (h:Hl θ M w b off cs) (k:Nat):Hl θ M w b (off+k) (cs.drop k):=by
 intro j x hx
 rw [List.getElem?_drop] at hx
 have:=h (k+j) x hx
 rwa [← Nat.add_assoc] at this
theorem Hl.load {b off:Nat} {cs:List AV} (h:Hl θ M w b off cs) {t:TypeId} {g:Bool} (hg:(Ab P t).agg=some g) {x:AV} (hx:Ay g (Ab P t).sz cs=some x) :
  ∃ v,(loadVar t ⟨b,off,none⟩).run P w=.ok v w∧Ar θ M w x v:=by
 have hA:=Wj (w:=w) hg
 have hS:=Cd (w:=w) (M4 hg)
 cases g with
 | true=>
  simp only [Ay,if_true] at hx
  split at hx
  ·rename_i hle
   have hx:=Option.some.inj hx
   subst hx
   let cv:Nat→Value:=fun j=>(w.cell? ⟨b,off+j,none⟩).getD undef
   have hcv:∀ j x,cs[j]?=some x→w.cell? ⟨b,off+j,none⟩=some (cv j)∧(cv j).oneCell'=true∧Ar θ M w x (cv j):=by
    intro j x hj
    obtain ⟨v,h1,h2,h3⟩:=h j x hj
    simp only [cv,h1,Option.getD_some]
    exact ⟨trivial,h2,h3⟩
   have hl:=run_loadCells (P:=P) w ⟨b,off,none⟩ (Ab P t).sz cv (fun j hj=>by
    rw [Fk]
    exact (hcv j (cs[j]'(by omega)) (List.getElem?_eq_getElem _)).1)
   refine ⟨_,by simp [loadVar,hA,hS,hl]; rfl,?_⟩
   refine .agg _ _ (by simp; omega) (fun i hi=>?_) (fun i x hi=>?_)
   ·have hi2:i < (Ab P t).sz∧i < cs.length:=by simp only [List.length_take] at hi; omega
    have:=(hcv i (cs[i]'(by omega)) (List.getElem?_eq_getElem _)).2.1
    simpa [Array.getD_eq_getD_getElem?,hi2.1] using this
   ·rw [List.getElem?_take] at hi
    split at hi
    ·rename_i hlt
     have:=(hcv i x hi).2.2
     simpa [Array.getD_eq_getD_getElem?,hlt] using this
    ·cases hi
  ·cases hx
 | false=>
  simp only [Ay,Bool.false_eq_true,if_false] at hx
  have h0:cs[0]?=some x:=by simpa [List.head?_eq_getElem?] using hx
  obtain ⟨v,h1,h2,h3⟩:=h 0 x h0
  refine ⟨v,?_,h3⟩
  simp only [Nat.add_zero] at h1
  simp [loadVar,hA,h1]
theorem Ft {os:Nat→Option AO} {cs:List AV} (h:∀ (i:Nat) (y:AV),cs[i]?=some y→y.lives os) {g:Bool} {sz:Nat} {x:AV} (hx:Ay g sz cs=some x):x.lives os:=by
 cases g with
 | true=>
  simp only [Ay,if_true] at hx
  split at hx
  ·have hx:=Option.some.inj hx
   subst hx
   rw [AV.lives_agg]
   intro i y hi
   rw [List.getElem?_take] at hi
   split at hi
   ·exact h i y hi
   ·cases hi
  ·cases hx
 | false=>
  simp only [Ay,Bool.false_eq_true,if_false] at hx
  exact h 0 x (by simpa [List.head?_eq_getElem?] using hx)
theorem C2 {b off:Nat} {cur:Array Value} {e:TypeId} {fr:Nat × Nat} (hb:w.heap[b]?=some (.cells cur e fr)) {v:Value} (hv:cur[off]?=some v):w.cell? ⟨b,off,none⟩=some v:=by
 simp [World.cell?,hb,hv]
theorem Mt (h:Av N B S θ M w st a) {n:Nat} {cs:List AV} (hn:st.o n=some (.cells cs)):Hl θ M w (θ n).blk 0 cs:=by
 obtain ⟨_,cur,e,hb,hs,ho,hx⟩:=h.ob n _ hn
 intro j x hj
 have hlt:j < cs.length:=(List.getElem?_eq_some_iff.1 hj).1
 refine ⟨cur.getD j undef,C2 hb ?_,ho j hlt,hx j x hj⟩
 have:j < cur.size:=by omega
 simp [this]
theorem Aad (h:Av N B S θ M w st a) {n k:Nat} {es:List (List PV)} (hn:st.o n=some (.arr k es)) {i:Nat} (hi:i < es.length):Hl θ M w (θ n).blk (i * k) ((es.getD i []).map .p):=by
 obtain ⟨hk,h1⟩:=h.ob n _ hn
 rcases h1 with ⟨_,h0⟩ | ⟨_,hl,cur,e,hb,hs,ho,hx⟩
 ·subst h0; simp at hi
 ·intro j x hj
  simp only [List.getElem?_map,Option.map_eq_some_iff] at hj
  obtain ⟨y,hy,rfl⟩:=hj
  have hi':es[i]?=some (es.getD i []):=by simp [List.getD,hi]
  have hlen:=hk i _ hi'
  have hjk:j < k:=by rw [← hlen]; exact (List.getElem?_eq_some_iff.1 hy).1
  have hlt:i * k+j < cur.size:=by
   rw [hs]
   have:(i+1) * k≤(θ n).cap * k:=Nat.mul_le_mul_right _ (by omega)
   rw [Nat.add_mul] at this; omega
  exact ⟨cur.getD (i * k+j) undef,C2 hb (by simp [hlt]),ho _ hlt,.p _ _ (hx i _ j y hi' hy)⟩
theorem Ac6 {cs:List PV} {b off:Nat} (h:Cp M w (.ro cs) (.pointer (some ⟨b,off,none⟩))):Hl θ M w b off (cs.map .p):=by
 cases h with
 | ro _ _ _ cv h1 h2=>
  intro j x hj
  simp only [List.getElem?_map,Option.map_eq_some_iff] at hj
  obtain ⟨y,hy,rfl⟩:=hj
  exact ⟨cv j,(h1 j y hy).2,(h2 j y hy).oneCell,.p _ _ (h2 j y hy)⟩
end
section
variable {P:Program} {nb N B:Nat} {S:Nat→Prop} {θ:Nat→Loc} {M:Nat→Prop} {w:World} {st st':St} {a:Act} {o:Oper} {d:Nat} {e:Eff}
theorem Tp (h:Av N B S θ M w st a) (hd:∀ k,o.dst=some k→k < N) {x:Operand} (ho:o.op=.move x∨o.op=.assign x) :
  Dr P nb N B S θ M w (st.put o.dst (ev st.t x)) o a:=by
 refine Cc h hd (v:=a.eval x) ?_ (A0 h x) (Cr h x)
 rcases ho with ho | ho <;> simp [execOp,ho]
theorem T2 {x:AV} {v:Value} (hx:Ar θ M w x v) {b:Bool} (e:x=.p (.val (.bool b))):v=.bool b:=by
 subst e; cases hx with | p _ _ h=>cases h; rfl
theorem F7 {x:AV} {v u:Value} (hx:Ar θ M w x v) (e:x=.p (.val u)):v=u:=by
 subst e; cases hx with | p _ _ h=>cases h; rfl
theorem Jt {x:AV} {v:Value} (hx:Ar θ M w x v) {n off:Nat} (e:x=.ptr n off):v=.pointer (some ⟨(θ n).blk,off,none⟩):=by
 subst e; cases hx; rfl
theorem Qa {x:AV} {v:Value} (hx:Ar θ M w x v) {n k i off:Nat} (e:x=.eptr n k i off):v=.pointer (some ⟨(θ n).blk,i * k+off,none⟩):=by
 subst e; cases hx; rfl
theorem Yb {x:AV} {v:Value} (hx:Ar θ M w x v) {cs:List PV} (e:x=.p (.ro cs)):∃ b off,v=.pointer (some ⟨b,off,none⟩)∧Cp M w (.ro cs) (.pointer (some ⟨b,off,none⟩)):=by
 subst e; cases hx with | p _ _ h=>cases h with | ro _ b off cv h1 h2=>exact ⟨b,off,rfl,.ro _ b off cv h1 h2⟩
theorem Ac9 (h:Av N B S θ M w st a) (hd:∀ k,o.dst=some k→k < N) {c x y:Operand} (ho:o.op=.pick c x y) {b:Bool} (hc:ev st.t c=.p (.val (.bool b))) :
  Dr P nb N B S θ M w (st.put o.dst (if b=true then ev st.t x else ev st.t y)) o a:=by
 have hb:=T2 (A0 h c) hc
 cases b with
 | true=>exact Cc h hd (v:=a.eval x) (by simp [execOp,ho,hb,asBool]) (by simpa using A0 h x) (by simpa using Cr h x)
 | false=>exact Cc h hd (v:=a.eval y) (by simp [execOp,ho,hb,asBool]) (by simpa using A0 h y) (by simpa using Cr h y)
theorem Xc {cs:List PV} {b off:Nat} (h:Cp M w (.ro cs) (.pointer (some ⟨b,off,none⟩))) (k:Nat):Cp M w (.ro (cs.drop k)) (.pointer (some ⟨b,off+k,none⟩)):=by
 cases h with
 | ro _ _ _ cv h1 h2=>
  refine .ro _ b (off+k) (fun j=>cv (k+j)) (fun j x hj=>?_) (fun j x hj=>?_)
  ·rw [List.getElem?_drop] at hj
   have:=h1 (k+j) x hj
   rwa [← Nat.add_assoc] at this
  ·rw [List.getElem?_drop] at hj
   exact h2 (k+j) x hj
theorem P1 (h:Av N B S θ M w st a) (hd:∀ k,o.dst=some k→k < N) {t:TypeId} {x:Operand} (ho:o.op=.load t x) {g:Bool} (hg:(Ab P t).agg=some g)
  {b off:Nat} (hv:a.eval x=.pointer (some ⟨b,off,none⟩)) {cs:List AV} (hc:Hl θ M w b off cs) (hl:∀ (i:Nat) (y:AV),cs[i]?=some y→y.lives st.o) {y:AV} (hy:Ay g (Ab P t).sz cs=some y) :
  Dr P nb N B S θ M w (st.put o.dst y) o a:=by
 obtain ⟨v,hr,hrel⟩:=hc.load hg hy
 exact Cc h hd (v:=v) (by simp [execOp,ho,hv,Instr.loadAt,Instr.sureAddr,hr]) hrel (Ft hl hy)
theorem M7 {t:TypeId} {fs:List (Nat × Nat)} (hk:(Ab P t).k=.struct fs):∃ fields:Array Field,P.underlying t=some (.struct fields)∧fs=fields.toList.map fun f=>(f.offset,f.type):=by
 obtain ⟨i,u,hi,hu⟩:=Nl hk (by simp)
 simp only [Ab,hi,hu] at hk
 cases u <;> simp at hk
 exact ⟨_,hu,hk.symm⟩
theorem Mn {t n e:TypeId} (hk:(Ab P t).k=.arr n e):P.underlying t=some (.array n e):=by
 obtain ⟨i,u,hi,hu⟩:=Nl hk (by simp)
 simp only [Ab,hi,hu] at hk
 cases u <;> simp at hk
 rw [hu,hk.1,hk.2]
theorem Hn {t e:TypeId} (hk:(Ab P t).k=.sl e):P.underlying t=some (.slice e):=by
 obtain ⟨i,u,hi,hu⟩:=Nl hk (by simp)
 simp only [Ab,hi,hu] at hk
 cases u <;> simp at hk
 rw [hu,hk]
theorem Ajh {t:TypeId} {k:IntKind} (hk:(Ab P t).k=.int k):P.underlying t=some (.int k):=by
 obtain ⟨i,u,hi,hu⟩:=Nl hk (by simp)
 simp only [Ab,hi,hu] at hk
 cases u <;> simp at hk
 rw [hu,hk]
theorem Ars {t:TypeId} (h:(Ab P t).sz≠0):∀ k,(Ab P t).k=k→k≠.bad:=by
 intro k hk e
 subst e
 unfold Ab at h hk
 split at h
 ·rename_i i u hi hu
  simp only [hi,hu] at hk
  split at hk <;> cases hk
 ·exact h rfl
theorem Aba {t f:Nat} {fs:List (Nat × Nat)} (hk:(Ab P t).k=.struct fs) {off ft:Nat} (hf:fs[f]?=some (off,ft)) (hz:(Ab P ft).sz≠0) (b p:Nat) :
  (Instr.fieldAt t (.pointer (some ⟨b,p,none⟩)) f).run P w=.ok (.pointer (some ⟨b,p+off,none⟩)) w:=by
 obtain ⟨fields,hu,rfl⟩:=M7 hk
 simp only [List.getElem?_map,Option.map_eq_some_iff] at hf
 obtain ⟨fd,hfd,he⟩:=hf
 simp only [Prod.mk.injEq] at he
 obtain ⟨rfl,rfl⟩:=he
 have hfd':fields[f]?=some fd:=by simpa using hfd
 simp [Instr.fieldAt,Bt hu,hfd',Instr.sureAddr,fieldPlace,Cd (w:=w) (Ars hz),hz,Fk]
theorem Hb (h:Av N B S θ M w st a) (hd:∀ k,o.dst=some k→k < N) {t f:Nat} {x:Operand} (ho:o.op=.fieldAddr t x f) {fs:List (Nat × Nat)} (hk:(Ab P t).k=.struct fs)
  {off ft:Nat} (hf:fs[f]?=some (off,ft)) (hz:(Ab P ft).sz≠0) {b p:Nat} (hv:a.eval x=.pointer (some ⟨b,p,none⟩)) {y:AV} (hy:Ar θ M w y (.pointer (some ⟨b,p+off,none⟩))) (hl:y.lives st.o) :
  Dr P nb N B S θ M w (st.put o.dst y) o a:=
 Cc h hd (v:=.pointer (some ⟨b,p+off,none⟩)) (by simp [execOp,ho,hv,Aba hk hf hz]) hy hl
theorem Ai0 {op:BinOp} {x y v:Value} (h:J6 op x y=some v):v.oneCell'=true:=by
 cases x <;> cases y <;> simp only [J6] at h <;> try (cases h; done)
 rename_i k n k' m
 cases op <;> simp only at h <;> (try split at h) <;> (try (cases h; done)) <;> simp only [Jw,Ab7,Qv] at h <;> (try split at h) <;> first
  | (cases h; done)
  | (cases h; rfl)
theorem Ahh {op:BinOp} {x y v:Value} (h:J6 op x y=some v) (t:TypeId):(binOp op t x y).run P w=.ok v w:=by
 cases x <;> cases y <;> simp only [J6] at h <;> try (cases h; done)
 rename_i k n k' m
 cases op <;> simp only at h <;> (try split at h) <;> (try (cases h; done)) <;> (try (rename_i hkk; subst hkk)) <;> simp only [Jw,Ab7,Qv] at h <;> (try split at h) <;> (try (cases h; done)) <;> cases h <;>
  simp_all [binOp,Op.intArith,Op.intCmp,Op.intBits,Op.intDiv,Op.shift] <;> omega
theorem Sk {op:BinOp} {x y:Operand} {u v:Value} (hu:Ac2 u=true) (t:TypeId):(eqGuard op t x y u v).run P w=.ok () w:=by
 unfold eqGuard
 cases op <;> cases u <;> simp [Ac2] at hu ⊢
theorem Af5 {op:BinOp} {x y v:Value} (h:J6 op x y=some v):Ac2 x=true:=by
 cases x <;> cases y <;> simp only [J6] at h <;> first | rfl | (cases h; done)
theorem X9 (d:Nat) {t:TypeId} (ht:P.underlying t=some .bool) (a b:Bool):(Op.equalIn (d+1) t (.bool a) (.bool b)).run P w=.ok (a == b) w:=by
 simp only [Op.equalIn,Sem.run_bind,Bt ht,Result.andThen_ok,Sem.run_pure]
theorem Th {t:TypeId} (ht:P.underlying t=some .bool) (a b:Bool):(Op.equal t (.bool a) (.bool b)).run P w=.ok (a == b) w:=X9 9999 ht a b
theorem Afw {op:BinOp} {a b:Bool} {v:Value} (h:Adx op a b=some v) {t:TypeId} (ht:P.underlying t=some .bool):(binOp op t (.bool a) (.bool b)).run P w=.ok v w∧v.oneCell'=true:=by
 cases op <;> simp only [Adx,Option.some.injEq,reduceCtorEq] at h
 ·subst h; refine ⟨?_,rfl⟩; simp only [binOp,Sem.run_bind,Th ht,Result.andThen_ok,Sem.run_pure]
 ·subst h; refine ⟨?_,rfl⟩; simp only [binOp,Sem.run_bind,Th ht,Result.andThen_ok,Sem.run_pure]; rfl
theorem Afn {t:TypeId} (hk:(Ab P t).k=.bool):P.underlying t=some .bool:=by
 obtain ⟨i,u,hi,hu⟩:=Nl hk (by simp)
 simp only [Ab,hi,hu] at hk
 cases u <;> simp at hk
 rw [hu]
end
section
variable {P:Program} {nb N B:Nat} {S:Nat→Prop} {θ:Nat→Loc} {M:Nat→Prop} {w:World} {st st':St} {a:Act} {o:Oper} {d:Nat} {e:Eff}
def RL (R:AV→Value→Prop) (cs:List AV) (vs:List Value):Prop:=
 vs.length=cs.length∧∀ (i:Nat) (x:AV),cs[i]?=some x→∃ v,vs[i]?=some v∧v.oneCell'=true∧R x v
theorem RL.take {R:AV→Value→Prop} {cs:List AV} {vs:List Value} (h:RL R cs vs) (k:Nat):RL R (cs.take k) (vs.take k):=by
 refine ⟨by simp [h.1],fun i x hx=>?_⟩
 rw [List.getElem?_take] at hx ⊢
 split at hx
 ·rename_i hlt; rw [if_pos hlt]; exact h.2 i x hx
 ·cases hx
theorem RL.drop {R:AV→Value→Prop} {cs:List AV} {vs:List Value} (h:RL R cs vs) (k:Nat):RL R (cs.drop k) (vs.drop k):=by
 refine ⟨by simp [h.1],fun i x hx=>?_⟩
 rw [List.getElem?_drop] at hx ⊢
 exact h.2 _ x hx
theorem RL.append {R:AV→Value→Prop} {cs ds:List AV} {vs us:List Value} (h:RL R cs vs) (h':RL R ds us):RL R (cs++ds) (vs++us):=by
 refine ⟨by simp [h.1,h'.1],fun i x hx=>?_⟩
 rw [List.getElem?_append] at hx ⊢
 rw [h.1]
 split at hx
 ·rename_i hlt; rw [if_pos hlt]; exact h.2 i x hx
 ·rename_i hlt; rw [if_neg hlt]; exact h'.2 _ x hx
theorem RL.mono {R R':AV→Value→Prop} {cs:List AV} {vs:List Value} (h:RL R cs vs) (hr:∀ x v,R x v→R' x v):RL R' cs vs:=
 ⟨h.1,fun i x hx=>let ⟨v,h1,h2,h3⟩:=h.2 i x hx; ⟨v,h1,h2,hr x v h3⟩⟩
theorem D5 {α:Type} (vs:List α):∀ (cs:List α) (off:Nat),off+vs.length≤cs.length→Bd cs off vs=cs.take off++vs++cs.drop (off+vs.length):=by
 induction vs with
 | nil=>intro cs off _; simp [Bd]
 | cons v vs ih=>
  intro cs off hle
  simp only [List.length_cons] at hle
  rw [Bd,ih _ _ (by simp; omega)]
  have hlt:off < cs.length:=by omega
  rw [show (cs.set off v).take (off+1)=cs.take off++[v] by
   rw [List.take_succ_eq_append_getElem (by simpa using hlt)]; simp [List.take_set_of_le]]
  rw [show (cs.set off v).drop (off+1+vs.length)=cs.drop (off+(vs.length+1)) by
   rw [List.drop_set_of_lt (by omega)]; congr 1; omega]
  simp [List.append_assoc]
theorem Aco (h:Av N B S θ M w st a) {n:Nat} {cs:List AV} (hn:st.o n=some (.cells cs)):(θ n).nil=false∧∃ cur e,w.heap[(θ n).blk]?=some (.cells cur e (0,0))∧RL (Ar θ M w) cs cur.toList:=by
 obtain ⟨h0,cur,e,hb,hs,ho,hx⟩:=h.ob n _ hn
 refine ⟨h0,cur,e,hb,by simpa using hs,fun i x hi=>?_⟩
 have hlt:i < cs.length:=(List.getElem?_eq_some_iff.1 hi).1
 have hlt':i < cur.size:=by omega
 refine ⟨cur.getD i undef,?_,ho i hlt,hx i x hi⟩
 simp [hlt']
theorem T0 {l:Loc} {cs:List AV} {vs:List Value} {e:TypeId} (h0:l.nil=false) (hb:w.heap[l.blk]?=some (.cells vs.toArray e (0,0))) (h:RL (Ar θ M w) cs vs):Pv θ M w l (.cells cs):=by
 refine ⟨h0,vs.toArray,e,hb,by simp [h.1],fun i hi=>?_,fun i x hi=>?_⟩
 ·obtain ⟨v,h1,h2,_⟩:=h.2 i cs[i] (List.getElem?_eq_getElem hi)
  simpa [Array.getD_eq_getD_getElem?,h1] using h2
 ·obtain ⟨v,h1,_,h3⟩:=h.2 i x hi
  simpa [Array.getD_eq_getD_getElem?,h1] using h3
theorem La {x:AV} {v:Value} (h:Ar θ M w x v) {cs:List AV} (hc:x.cs?=some cs):RL (Ar θ M w) cs v.cells.toList:=by
 obtain ⟨h1,h2,h3⟩:=Ach h hc
 refine ⟨by simpa using h1,fun i y hi=>?_⟩
 have hlt:i < cs.length:=(List.getElem?_eq_some_iff.1 hi).1
 have hlt':i < v.cells.size:=by omega
 refine ⟨v.cells.getD i undef,?_,h2 i hlt,h3 i y hi⟩
 simp [hlt']
theorem Qz {t:TypeId} (hk:∀ k,(Ab P t).k=k→k≠.bad) {v:Value} (hs:v.cells.size=(Ab P t).sz) {b off:Nat} {cur:Array Value} {e:TypeId} (hb:w.heap[b]?=some (.cells cur e (0,0)))
  (hfit:off+v.cells.size≤cur.size) (h1:∀ u ∈ v.cells.toList,u.oneCell'=true) :
  (storeVar t ⟨b,off,none⟩ v).run P w=.ok () (w.setRow b (cur.toList.take off++v.cells.toList++cur.toList.drop (off+v.cells.size)).toArray):=by
 have hst:=run_storeCells_at P b off e v.cells.toList 0 cur w hb (by simpa using hfit) h1
 simp only [Nat.add_zero,Array.length_toList] at hst
 simp [storeVar,Cd (w:=w) hk,hs,hst]
theorem Fo (w:World) (g k:Nat) (cur:Array Value) (h:k≠g):(w.setRow g cur).heap[k]?=w.heap[k]?:=setRow_other w g k cur h
theorem Z4 (h:Av N B S θ M w st a) {t:TypeId} {x y:Operand} (ho:o.op=.store t x y) (hdst:∀ k,o.dst=some k→k < N) {vs:List AV} (hv:(ev st.t y).cs?=some vs)
  (hg:∀ k,(Ab P t).k=k→k≠.bad) (hsz:vs.length=(Ab P t).sz) {n off:Nat} (hx:ev st.t x=.ptr n off) {cs:List AV} (hn:st.o n=some (.cells cs)) (hfit:off+vs.length≤cs.length) :
  Dr P nb N B S θ M w ((st.setO n (.cells (Bd cs off vs))).put o.dst .undef) o a:=by
 obtain ⟨hnil,cur,e,hb,hrl⟩:=Aco h hn
 have hrv:=La (A0 h y) hv
 have hsv:(a.eval y).cells.size=vs.length:=by simpa using hrv.1
 have hcl:cur.size=cs.length:=by simpa using hrl.1
 have hrun:=Qz (P:=P) (w:=w) hg (v:=a.eval y) (by rw [hsv,hsz]) hb (off:=off) (by rw [hsv,hcl]; exact hfit) (fun u hu=>by
  obtain ⟨i,hi⟩:=List.mem_iff_getElem?.1 hu
  have hlt:i < vs.length:=by have:=(List.getElem?_eq_some_iff.1 hi).1; simp at this; omega
  obtain ⟨v,h1,h2,_⟩:=hrv.2 i vs[i] (List.getElem?_eq_getElem hlt)
  rw [hi] at h1; cases h1; exact h2)
 have hpx:=Jt (A0 h x) hx
 have hnew:RL (Ar θ M w) (Bd cs off vs) (cur.toList.take off++(a.eval y).cells.toList++cur.toList.drop (off+(a.eval y).cells.size)):=by
  rw [D5 vs cs off hfit,hsv]
  exact ((hrl.take off).append hrv).append (hrl.drop _)
 have hMn:M (θ n).blk:=(h.lv n _ hn hnil).1
 have hw:∀ b,b < w.heap.size→¬ M b→(w.setRow (θ n).blk (cur.toList.take off++(a.eval y).cells.toList++cur.toList.drop (off+(a.eval y).cells.size)).toArray).heap[b]?=w.heap[b]?:=
  fun b _ hm=>Fo _ _ _ _ (fun e=>hm (e ▸ hMn))
 have hS:=h.upd hn hnil (o':=.cells (Bd cs off vs)) (w':=w.setRow (θ n).blk (cur.toList.take off++(a.eval y).cells.toList++cur.toList.drop (off+(a.eval y).cells.size)).toArray)
  (by simp [World.setRow]) (fun b hbne=>Fo _ _ _ _ hbne)
  (T0 hnil (setRow_heap w _ cur _ e (0,0) hb) (hnew.mono fun x v hr=>hr.mono hw (fun _ _ h=>h)))
  (by
   rw [AO.lives_cells]
   intro i z hz
   rw [D5 vs cs off hfit,List.getElem?_append,List.getElem?_append] at hz
   split at hz
   ·split at hz
    ·rw [List.getElem?_take] at hz
     split at hz
     ·exact AO.lives_cells.1 (h.cl.2 n _ hn) _ z hz
     ·cases hz
    ·exact Nd (Cr h y) hv _ z hz
   ·rw [List.getElem?_drop] at hz
    exact AO.lives_cells.1 (h.cl.2 n _ hn) _ z hz)
 have hkeep:=Bx.of_upd h hn hnil (w':=w.setRow (θ n).blk (cur.toList.take off++(a.eval y).cells.toList++cur.toList.drop (off+(a.eval y).cells.size)).toArray) (by simp [World.setRow]) (fun b hbne=>Fo _ _ _ _ hbne) rfl rfl rfl
 generalize w.setRow (θ n).blk (cur.toList.take off++(a.eval y).cells.toList++cur.toList.drop (off+(a.eval y).cells.size)).toArray=W at *
 exact ⟨undef,W,.inr ⟨by simp [execOp,ho,hpx,Instr.storeAt,Instr.sureAddr,hrun],rfl⟩,Adv.trans hkeep (fun _ _=>rfl) (fun _ _ h=>h) (Adv.put hS hdst (.undef _) (AV.lives_undef _))⟩
theorem Fl {t:TypeId} (hg:∀ k,(Ab P t).k=k→k≠.bad) (hsz:(Ab P t).sz=(Ab P t).zero.length) (hpos:0 < (Ab P t).sz):∃ z,(zeroValue t).run P w=.ok z w∧z.cells.toList=(Ab P t).zero:=by
 obtain ⟨i,u,hi,hu⟩:=Ls hg
 obtain ⟨h1,h2,h3⟩:=Sx hi hu
 rw [h3] at hsz ⊢
 rw [h1] at hsz hpos
 unfold Py at hsz ⊢
 rw [hi] at hsz ⊢
 cases hz:i.zero with
 | none=>simp [hz] at hsz; omega
 | some z=>exact ⟨z,by simp [zeroValue,typeInfo,hi,hz],by simp [hz]⟩
theorem Kz (w:World) (x:Obj):(w.alloc x).heap[w.heap.size]?=some x:=by
 show (w.heap.push x)[w.heap.size]?=some x
 simp
theorem Kh (w:World) (x:Obj) {b:Nat} (hb:b < w.heap.size):(w.alloc x).heap[b]?=w.heap[b]?:=by
 show (w.heap.push x)[b]?=_
 rw [Array.getElem?_push,if_neg (by omega)]
theorem Ad1 (h:Av N B S θ M w st a) {dk dd:Nat} (hdst:o.dst=some dk) (hdN:dk < N) (hd4:nb≤dd) (hfree:st.o dd=none) {vs:List Value} {t:TypeId} {cs:List AV} (hrl:RL (Ar θ M w) cs vs)
  (hl:∀ (i:Nat) (x:AV),cs[i]?=some x→x.lives st.o):Adv nb N B S θ M w ((st.setO dd (.cells cs)).put o.dst (.ptr dd 0)) (a.put o.dst (.pointer (some ⟨w.heap.size,0,none⟩))) (w.alloc (.cells vs.toArray t)):=by
 have hk:∀ b,b < w.heap.size→(w.alloc (.cells vs.toArray t)).heap[b]?=w.heap[b]?:=fun b hb=>Kh w _ hb
 have hM:∀ b,b < w.heap.size→(M b∨(false=false∧b=w.heap.size))→M b:=fun b hb hm=>hm.elim id (fun e=>by omega)
 have hup:∀ m,(st.o m).isSome=true→((upd st.o dd (some (.cells cs))) m).isSome=true:=fun m hm=>by
  by_cases e:m=dd
  ·subst e; simp
  ·rw [Ao e]; exact hm
 have hS:=h.new (d:=dd) hfree (w':=w.alloc (.cells vs.toArray t)) (l:=⟨w.heap.size,0,false⟩) (o:=.cells cs) (by simp) hk (fun _=>⟨Nat.le_refl _,by simp⟩)
  (T0 rfl (Kz w _) (hrl.2 |> fun hx=>⟨hrl.1,fun i x hi=>by
   obtain ⟨v,h1,h2,h3⟩:=hx i x hi
   exact ⟨v,h1,h2,(h3.mono (fun b hb _=>hk b hb) hM).rename (clean_of_free hfree (hl i x hi))⟩⟩))
  (by rw [AO.lives_cells]; exact fun i x hi=>AV.lives_mono hup (hl i x hi))
 refine ⟨_,_,hS.put (d:=o.dst) (fun k e=>by rw [hdst] at e; cases e; exact hdN) (x:=.ptr dd 0) (v:=.pointer (some ⟨w.heap.size,0,none⟩)) ?_ ?_,Bx.alloc _ _ _,fun n hn=>Bb (by omega),fun b _ hb=>.inl hb⟩
 ·have:=Ar.ptr (θ:=Fj θ dd ⟨w.heap.size,0,false⟩) (M:=fun b=>M b∨(false=false∧b=w.heap.size)) (w:=w.alloc (.cells vs.toArray t)) dd 0
  simpa using this
 ·intro m hm
  simp only [AV.clean,bne_eq_false_iff_eq] at hm
  subst hm
  simp [St.setO]
theorem Ae9 (h:Av N B S θ M w st a) {t:TypeId} {x:Operand} (ho:o.op=.box t x) {dk dd:Nat} (hdst:o.dst=some dk) (hdN:dk < N) (hd4:nb≤dd) (hfree:st.o dd=none) {cs:List AV} (hc:(ev st.t x).cs?=some cs) :
  Dr P nb N B S θ M w ((st.setO dd (.cells cs)).put o.dst (.ptr dd 0)) o a:=
 ⟨.pointer (some ⟨w.heap.size,0,none⟩),w.alloc (.cells (a.eval x).cells t),.inl (by simp [execOp,ho,Instr.box,newVar,newRow]),by
  have:=Ad1 (t:=t) h hdst hdN hd4 hfree (La (A0 h x) hc) (Nd (Cr h x) hc)
  simpa using this⟩
theorem Tq {R:AV→Value→Prop} (hR:∀ v,v.oneCell'=true→R (.p (.val v)) v) {vs:List Value} (h:vs.all Value.oneCell'=true):RL R (E7 vs) vs:=by
 refine ⟨by simp [E7],fun i x hx=>?_⟩
 simp only [E7,List.getElem?_map,Option.map_eq_some_iff] at hx
 obtain ⟨v,hv,rfl⟩:=hx
 have h1:=List.all_eq_true.1 h v (List.mem_of_getElem? hv)
 exact ⟨v,hv,h1,hR v h1⟩
theorem J2 (os:Nat→Option AO) (vs:List Value):∀ (i:Nat) (x:AV),(E7 vs)[i]?=some x→x.lives os:=by
 intro i x hx
 simp only [E7,List.getElem?_map,Option.map_eq_some_iff] at hx
 obtain ⟨v,_,rfl⟩:=hx
 exact AV.lives_p _ _
theorem Aaj (h:Av N B S θ M w st a) {t:TypeId} (ho:o.op=.alloc t) {dk dd:Nat} (hdst:o.dst=some dk) (hdN:dk < N) (hd4:nb≤dd) (hfree:st.o dd=none)
  (hz:(Ab P t).zero.all Value.oneCell'=true) (hsz:(Ab P t).sz=(Ab P t).zero.length) (hpos:0 < (Ab P t).sz) (hg:∀ k,(Ab P t).k=k→k≠.bad) :
  Dr P nb N B S θ M w ((st.setO dd (.cells (E7 (Ab P t).zero))).put o.dst (.ptr dd 0)) o a:=by
 obtain ⟨z,hz1,hz2⟩:=Fl (w:=w) hg hsz hpos
 refine ⟨.pointer (some ⟨w.heap.size,0,none⟩),w.alloc (.cells z.cells t),.inl (by simp [execOp,ho,Instr.alloc,hz1,newVar,newRow]),?_⟩
 have:=Ad1 (t:=t) h hdst hdN hd4 hfree (vs:=z.cells.toList) (by rw [hz2]; exact Tq (fun v hv=>.p _ _ (.val _ hv)) hz) (J2 _ _)
 simpa using this
end
section
variable {P:Program} {nb N B:Nat} {S:Nat→Prop} {θ:Nat→Loc} {M:Nat→Prop} {w:World} {st st':St} {a:Act} {o:Oper} {d:Nat} {e:Eff}
theorem Nv {x:AV} {v:Value} (hx:Ar θ M w x v) {k:IntKind} {n:Int} (e:x=.p (.val (.int k n))):v=.int k n:=F7 hx e
theorem H1 {t e:TypeId} (hk:(Ab P t).k=.sl e) (hg:∀ k,(Ab P e).k=k→k≠.bad) {k:IntKind} {n:Int} {b off len cap:Nat} (h0:0≤n) (h1:n < len) :
  (Instr.indexAt t (.slice (some ⟨b,off,none⟩) len cap) (.int k n)).run P w=.ok (.pointer (some ⟨b,off+n.toNat * (Ab P e).sz,none⟩)) w:=by
 have hu:=Hn hk
 simp [Instr.indexAt,asIntOf,Bt hu,h0,h1,Cd (w:=w) hg,Fk]
theorem Mb {t e len:TypeId} (hk:(Ab P t).k=.arr len e) (hg:∀ k,(Ab P e).k=k→k≠.bad) {k:IntKind} {n:Int} {b off:Nat} (h0:0≤n) (h1:n < len) :
  (Instr.indexAt t (.pointer (some ⟨b,off,none⟩)) (.int k n)).run P w=.ok (.pointer (some ⟨b,off+n.toNat * (Ab P e).sz,none⟩)) w:=by
 have hu:=Mn hk
 simp [Instr.indexAt,asIntOf,Bt hu,h0,h1,Cd (w:=w) hg,Fk,Instr.sureAddr]
theorem Eg (h:Av N B S θ M w st a) (hd:∀ k,o.dst=some k→k < N) {t:TypeId} {x i:Operand} (ho:o.op=.indexAddr t x i) {k:IntKind} {n:Int} (hi:ev st.t i=.p (.val (.int k n)))
  {b off:Nat} (hr:(Instr.indexAt t (a.eval x) (.int k n)).run P w=.ok (.pointer (some ⟨b,off,none⟩)) w) {y:AV} (hy:Ar θ M w y (.pointer (some ⟨b,off,none⟩))) (hl:y.lives st.o) :
  Dr P nb N B S θ M w (st.put o.dst y) o a:=
 Cc h hd (v:=.pointer (some ⟨b,off,none⟩)) (by simp [execOp,ho,Nv (A0 h i) hi,hr]) hy hl
theorem Afx {es:List (List PV)} {v:Value} (h:Cp M w (.sl es) v) {i:Nat} {e:List PV} (hi:es[i]?=some e) :
  ∃ b off c,v=.slice (some ⟨b,off,none⟩) es.length c∧Cp M w (.ro e) (.pointer (some ⟨b,off+i * e.length,none⟩)):=by
 cases h with
 | nil=>simp at hi
 | emp=>simp at hi
 | sl es b off c k cv hk hc h1 h2=>
  refine ⟨b,off,c,rfl,?_⟩
  rw [hk i e hi]
  refine .ro e b (off+i * k) (cv i) (fun j x hj=>?_) (fun j x hj=>h2 i e j x hi hj)
  have:=h1 i e j x hi hj
  rwa [← Nat.add_assoc] at this
theorem Tk (h:Av N B S θ M w st a) (hd:∀ k,o.dst=some k→k < N) {t e:TypeId} {x i:Operand} (ho:o.op=.indexAddr t x i) (hk:(Ab P t).k=.sl e) (hg:∀ k,(Ab P e).k=k→k≠.bad)
  {k:IntKind} {n:Int} (hi:ev st.t i=.p (.val (.int k n))) {es:List (List PV)} (hx:ev st.t x=.p (.sl es)) (h0:0≤n) (h1:n < es.length) (hsz:(es.getD n.toNat []).length=(Ab P e).sz) :
  Dr P nb N B S θ M w (st.put o.dst (.p (.ro (es.getD n.toNat [])))) o a:=by
 have hrel:=A0 h x
 rw [hx] at hrel
 generalize hv:a.eval x=v at *
 cases hrel with
 | p _ _ hp=>
  have hlt:n.toNat < es.length:=by omega
  have he:es[n.toNat]?=some (es.getD n.toNat []):=by simp [List.getD,hlt]
  obtain ⟨b,off,c,rfl,hro⟩:=Afx hp he
  rw [hsz] at hro
  exact Eg h hd ho hi (by rw [hv]; exact H1 hk hg h0 h1) (.p _ _ hro) (AV.lives_p _ _)
theorem Amw {n:Nat} {o:AO} (hn:st.o n=some o) {x:AV} (hx:∀ m,x.clean m=false→m=n):x.lives st.o:=fun m hm=>by rw [hx m hm,hn]; rfl
theorem Sw (h:Av N B S θ M w st a) (hd:∀ k,o.dst=some k→k < N) {t e:TypeId} {x i:Operand} (ho:o.op=.indexAddr t x i) (hk:(Ab P t).k=.sl e) (hg:∀ k,(Ab P e).k=k→k≠.bad)
  {k:IntKind} {n:Int} (hi:ev st.t i=.p (.val (.int k n))) {m len k':Nat} {es:List (List PV)} (hx:ev st.t x=.own m len) (hm:st.o m=some (.arr k' es)) (h0:0≤n) (h1:n < len) (hsz:k'=(Ab P e).sz) :
  Dr P nb N B S θ M w (st.put o.dst (.eptr m k' n.toNat 0)) o a:=by
 have hrel:=A0 h x
 rw [hx] at hrel
 generalize hv:a.eval x=v at *
 cases hrel with
 | own _ _ hn0 hle=>
  have hr:=H1 (P:=P) (w:=w) hk hg (k:=k) (b:=(θ m).blk) (off:=0) (cap:=(θ m).cap) h0 h1
  rw [Nat.zero_add,← hsz] at hr
  exact Eg h hd ho hi (by rw [hv]; exact hr) (.eptr m k' n.toNat 0) (Amw hm (fun j hj=>by simp [AV.clean] at hj; exact hj.symm))
 | ownNil _ hn0=>omega
theorem Sr (h:Av N B S θ M w st a) (hd:∀ k,o.dst=some k→k < N) {t e:TypeId} {x i:Operand} (ho:o.op=.indexAddr t x i) (hk:(Ab P t).k=.sl e) (hg:∀ k,(Ab P e).k=k→k≠.bad)
  {k:IntKind} {n:Int} (hi:ev st.t i=.p (.val (.int k n))) {m off k' len:Nat} (hx:ev st.t x=.csl m off k' len) (h0:0≤n) (h1:n < len) (hsz:k'=(Ab P e).sz) :
  Dr P nb N B S θ M w (st.put o.dst (.ptr m (off+n.toNat * k'))) o a:=by
 have hrel:=A0 h x
 have hlv:=Cr h x
 rw [hx] at hrel hlv
 generalize hv:a.eval x=v at *
 cases hrel with
 | csl _ _ _ _ cap hle=>
  have hr:=H1 (P:=P) (w:=w) hk hg (k:=k) (b:=(θ m).blk) (off:=off) (cap:=cap) h0 h1
  rw [← hsz] at hr
  exact Eg h hd ho hi (by rw [hv]; exact hr) (.ptr m (off+n.toNat * k')) (fun j hj=>hlv j (by simpa [AV.clean] using hj))
theorem Su (h:Av N B S θ M w st a) (hd:∀ k,o.dst=some k→k < N) {t e len:TypeId} {x i:Operand} (ho:o.op=.indexAddr t x i) (hk:(Ab P t).k=.arr len e) (hg:∀ k,(Ab P e).k=k→k≠.bad)
  {k:IntKind} {n:Int} (hi:ev st.t i=.p (.val (.int k n))) {m off:Nat} (hx:ev st.t x=.ptr m off) (h0:0≤n) (h1:n < len) :
  Dr P nb N B S θ M w (st.put o.dst (.ptr m (off+n.toNat * (Ab P e).sz))) o a:=by
 have hpx:=Jt (A0 h x) hx
 have hlv:=Cr h x
 rw [hx] at hlv
 exact Eg h hd ho hi (by rw [hpx]; exact Mb hk hg h0 h1) (.ptr m _) (fun j hj=>hlv j (by simpa [AV.clean] using hj))
theorem P8 (h:Av N B S θ M w st a) (hd:∀ k,o.dst=some k→k < N) {t e len:TypeId} {x i:Operand} (ho:o.op=.indexAddr t x i) (hk:(Ab P t).k=.arr len e) (hg:∀ k,(Ab P e).k=k→k≠.bad)
  {k:IntKind} {n:Int} (hi:ev st.t i=.p (.val (.int k n))) {cs:List PV} (hx:ev st.t x=.p (.ro cs)) (h0:0≤n) (h1:n < len) :
  Dr P nb N B S θ M w (st.put o.dst (.p (.ro (cs.drop (n.toNat * (Ab P e).sz))))) o a:=by
 obtain ⟨b,off,hv,hro⟩:=Yb (A0 h x) hx
 exact Eg h hd ho hi (by rw [hv]; exact Mb hk hg h0 h1) (.p _ _ (Xc hro _)) (AV.lives_p _ _)
theorem Aaf {t:TypeId} {g:Bool} (hg:(Ab P t).agg=some g) {cs:List AV} {vs:Array Value} (hrl:RL (Ar θ M w) cs vs.toList) {off:Nat} (hle:off+(Ab P t).sz≤cs.length) {y:AV}
  (hy:Ay g (Ab P t).sz (cs.drop off)=some y):∃ v,(part t vs off).run P w=.ok v w∧Ar θ M w y v:=by
 have hA:=Wj (w:=w) hg
 have hS:=Cd (w:=w) (M4 hg)
 cases g with
 | true=>
  simp only [Ay,if_true] at hy
  split at hy
  ·have hy:=Option.some.inj hy
   subst hy
   refine ⟨.agg (vs.extract off (off+(Ab P t).sz)),by simp [part,hA,hS],?_⟩
   have hl:RL (Ar θ M w) ((cs.drop off).take (Ab P t).sz) ((vs.toList.drop off).take (Ab P t).sz):=(hrl.drop off).take _
   have hvs:vs.toList.length=cs.length:=hrl.1
   refine .agg _ _ (by simp at hvs ⊢; omega) (fun i hi=>?_) (fun i x hi=>?_)
   ·obtain ⟨v,h1,h2,_⟩:=hl.2 i _ (List.getElem?_eq_getElem hi)
    rw [List.getElem?_take] at h1
    split at h1
    ·rename_i hlt
     rw [List.getElem?_drop] at h1
     have:(vs.extract off (off+(Ab P t).sz))[i]?=some v:=by
      rw [Array.getElem?_extract]; rw [if_pos (by simp at hvs; omega)]; simpa using h1
     simpa [Array.getD_eq_getD_getElem?,this] using h2
    ·cases h1
   ·obtain ⟨v,h1,_,h3⟩:=hl.2 i x hi
    rw [List.getElem?_take] at h1
    split at h1
    ·rename_i hlt
     rw [List.getElem?_drop] at h1
     have:(vs.extract off (off+(Ab P t).sz))[i]?=some v:=by
      rw [Array.getElem?_extract]; rw [if_pos (by simp at hvs; omega)]; simpa using h1
     simpa [Array.getD_eq_getD_getElem?,this] using h3
    ·cases h1
  ·cases hy
 | false=>
  simp only [Ay,Bool.false_eq_true,if_false] at hy
  have h0:cs[off]?=some y:=by simpa [List.head?_eq_getElem?,List.getElem?_drop] using hy
  obtain ⟨v,h1,_,h3⟩:=hrl.2 off y h0
  refine ⟨v,?_,h3⟩
  have h1':vs[off]?=some v:=by simpa using h1
  simp [part,hA,h1']
theorem Ad5 {x:AV} {v:Value} (hx:Ar θ M w x v) {cs:List AV} (e:x=.agg cs):∃ vs,v=.agg vs∧RL (Ar θ M w) cs vs.toList:=by
 have hr:=La hx (cs:=cs) (by rw [e]; rfl)
 subst e; cases hx; exact ⟨_,rfl,hr⟩
theorem Aaz (h:Av N B S θ M w st a) (hd:∀ k,o.dst=some k→k < N) {t f:Nat} {x:Operand} (ho:o.op=.field t x f) {fs:List (Nat × Nat)} (hk:(Ab P t).k=.struct fs)
  {off ft:Nat} {g:Bool} (hf:fs[f]?=some (off,ft)) (hg:(Ab P ft).agg=some g) {cs:List AV} (hx:ev st.t x=.agg cs) (hle:off+(Ab P ft).sz≤cs.length) {y:AV} (hy:Ay g (Ab P ft).sz (cs.drop off)=some y) :
  Dr P nb N B S θ M w (st.put o.dst y) o a:=by
 obtain ⟨fields,hu,rfl⟩:=M7 hk
 simp only [List.getElem?_map,Option.map_eq_some_iff] at hf
 obtain ⟨fd,hfd,he⟩:=hf
 simp only [Prod.mk.injEq] at he
 obtain ⟨rfl,rfl⟩:=he
 have hfd':fields[f]?=some fd:=by simpa using hfd
 obtain ⟨vs,hv,hrl⟩:=Ad5 (A0 h x) hx
 obtain ⟨v,hr,hrel⟩:=Aaf hg hrl hle hy
 have hlv:=Cr h x
 rw [hx,AV.lives_agg] at hlv
 refine Cc h hd (v:=v) ?_ hrel (Ft (fun i z hz=>by rw [List.getElem?_drop] at hz; exact hlv _ z hz) hy)
 simp [execOp,ho,hv,Instr.field,Bt hu,hfd',asAgg,hr]
theorem Aak (h:Av N B S θ M w st a) (hd:∀ k,o.dst=some k→k < N) {t e len:TypeId} {x i:Operand} (ho:o.op=.index t x i) (hk:(Ab P t).k=.arr len e) {g:Bool} (hg:(Ab P e).agg=some g)
  {k:IntKind} {n:Int} (hi:ev st.t i=.p (.val (.int k n))) {cs:List AV} (hx:ev st.t x=.agg cs) (h0:0≤n) (h1:n < len) (hle:n.toNat * (Ab P e).sz+(Ab P e).sz≤cs.length) {y:AV}
  (hy:Ay g (Ab P e).sz (cs.drop (n.toNat * (Ab P e).sz))=some y):Dr P nb N B S θ M w (st.put o.dst y) o a:=by
 obtain ⟨vs,hv,hrl⟩:=Ad5 (A0 h x) hx
 obtain ⟨v,hr,hrel⟩:=Aaf hg hrl hle hy
 have hlv:=Cr h x
 rw [hx,AV.lives_agg] at hlv
 refine Cc h hd (v:=v) ?_ hrel (Ft (fun i z hz=>by rw [List.getElem?_drop] at hz; exact hlv _ z hz) hy)
 simp [execOp,ho,hv,Nv (A0 h i) hi,Instr.index,asIntOf,Bt (Mn hk),h0,h1,Cd (w:=w) (M4 hg),hr]
theorem Vw (h:Av N B S θ M w st a) (hd:∀ k,o.dst=some k→k < N) {t s:TypeId} {x:Operand} (ho:o.op=.convert s t x) (hs:∃ u,P.underlying s=some u) {k k':IntKind} (hk:(Ab P t).k=.int k) {n:Int} (hx:ev st.t x=.p (.val (.int k' n))) :
  Dr P nb N B S θ M w (st.put o.dst (.p (.val (.int k (k.wrap n))))) o a:=by
 obtain ⟨u,hu⟩:=hs
 refine Cc h hd (v:=.int k (k.wrap n)) ?_ (.p _ _ (.val _ rfl)) (AV.lives_p _ _)
 simp [execOp,ho,Nv (A0 h x) hx,convert,Bt hu,Bt (Ajh hk),Conv.intToInt]
theorem Agm (h:Av N B S θ M w st a) (hd:∀ k,o.dst=some k→k < N) {t:TypeId} {x:Operand} (ho:o.op=.unOp .not t x) {b:Bool} (hx:ev st.t x=.p (.val (.bool b))) :
  Dr P nb N B S θ M w (st.put o.dst (.p (.val (.bool !b)))) o a:=
 Cc h hd (v:=.bool !b) (by simp [execOp,ho,F7 (A0 h x) hx,Op.unary]) (.p _ _ (.val _ rfl)) (AV.lives_p _ _)
theorem Afh (h:Av N B S θ M w st a) (hd:∀ k,o.dst=some k→k < N) {t:TypeId} {x:Operand} (ho:o.op=.unOp .neg t x) {k:IntKind} {n:Int} (hx:ev st.t x=.p (.val (.int k n))) :
  Dr P nb N B S θ M w (st.put o.dst (.p (.val (.int k (k.wrap (0 - n)))))) o a:=
 Cc h hd (v:=.int k (k.wrap (0 - n))) (by simp [execOp,ho,F7 (A0 h x) hx,Op.unary,Op.intArith]) (.p _ _ (.val _ rfl)) (AV.lives_p _ _)
theorem H9 (h:Av N B S θ M w st a) (hd:∀ k,o.dst=some k→k < N) {x:Operand} (ho:o.op=.nilCheck x) {ad:Addr} (hv:a.eval x=.pointer (some ad)) :
  Dr P nb N B S θ M w (st.put o.dst (ev st.t x)) o a:=
 Cc h hd (v:=a.eval x) (by simp [execOp,ho,hv]) (A0 h x) (Cr h x)
theorem Ua (h:Av N B S θ M w st a) (hd:∀ k,o.dst=some k→k < N) {f:Fn} {fs cs:Array Operand} (ho:o.op=.makeFunc f fs cs) :
  Dr P nb N B S θ M w (st.put o.dst (.fn f (fs.toList.map (ev st.t)) (cs.toList.map (ev st.t)))) o a:=by
 refine Cc h hd (v:=.func f (fs.map a.eval) (cs.map a.eval)) (by simp [execOp,ho,Instr.makeFunc]) (.fn f _ _ _ _ (by simp) (by simp) (fun i x hi=>?_) (fun i x hi=>?_)) (fun n hn=>?_)
 ·simp only [List.getElem?_map,Option.map_eq_some_iff] at hi
  obtain ⟨y,hy,rfl⟩:=hi
  have hy':fs[i]?=some y:=by simpa using hy
  simpa [Array.getD_eq_getD_getElem?,hy'] using A0 h y
 ·simp only [List.getElem?_map,Option.map_eq_some_iff] at hi
  obtain ⟨y,hy,rfl⟩:=hi
  have hy':cs[i]?=some y:=by simpa using hy
  simpa [Array.getD_eq_getD_getElem?,hy'] using A0 h y
 ·have hL:∀ (l:Array Operand),AV.clean.cleanL n (l.toList.map (ev st.t))=false→(st.o n).isSome=true:=fun l hl=>
   AV.lives_cells.1 (fun i x hi=>by
    simp only [List.getElem?_map,Option.map_eq_some_iff] at hi
    obtain ⟨y,_,rfl⟩:=hi
    exact Cr h y) n hl
  simp only [AV.clean,Bool.and_eq_false_iff] at hn
  exact hn.elim (hL fs) (hL cs)
theorem Vm (h:Av N B S θ M w st a) (hd:∀ k,o.dst=some k→k < N) {x:Operand} {i:Nat} (ho:o.op=.extract x i) {vs:List AV} (hx:ev st.t x=.tup vs) {y:AV} (hy:vs[i]?=some y) :
  Dr P nb N B S θ M w (st.put o.dst y) o a:=by
 have hrel:=A0 h x
 have hlv:=Cr h x
 rw [hx] at hrel hlv
 generalize hv:a.eval x=v at *
 cases hrel with
 | tup _ us hs hr=>
  have hlt:i < us.size:=by rw [hs]; exact (List.getElem?_eq_some_iff.1 hy).1
  refine Cc h hd (v:=us.getD i undef) ?_ (hr i y hy) (AV.lives_tup.1 hlv i y hy)
  simp [execOp,ho,hv,Instr.extract,hlt]
end
section
variable {P:Program} {nb N B:Nat} {S:Nat→Prop} {θ:Nat→Loc} {M:Nat→Prop} {w:World} {st st':St} {a:Act} {o:Oper} {d:Nat} {e:Eff}
theorem Re (off:Nat):∀ (l:List Value) (k:Nat) (A:Array Value),((l.zipIdx k).foldl (fun cs (x:Value × Nat)=>cs.setIfInBounds (off+x.2) x.1) A).toList=Bd A.toList (off+k) l
 | [],k,A=>by simp [Bd]
 | v :: l,k,A=>by
  simp only [List.zipIdx_cons,List.foldl_cons,Bd]
  rw [Re off l (k+1) _]
  simp [Nat.add_assoc]
theorem U7 (place:Nat→Option (Nat × Nat)):∀ (parts:List (Nat × AV)) (vals:List (Nat × Value)) (zero:List AV) (cells:Array Value) (cs:List AV),
  vals.map (·.1)=parts.map (·.1)→(∀ (i:Nat) (p:Nat × AV) (q:Nat × Value),parts[i]?=some p→vals[i]?=some q→Ar θ M w p.2 q.2) →
  RL (Ar θ M w) zero cells.toList→B6 zero place parts=some cs→∃ out,Instr.fill place cells vals=some out∧RL (Ar θ M w) cs out.toList
 | [],vals,zero,cells,cs,hm,_,hz,hf=>by
  have:vals=[]:=by simpa using hm
  subst this
  simp only [B6,Option.some.injEq] at hf
  subst hf
  exact ⟨cells,rfl,hz⟩
 | (i,x) :: r,vals,zero,cells,cs,hm,hr,hz,hf=>by
  match vals,hm with
  | (i',v) :: vs,hm1=>
   simp only [List.map_cons,List.cons.injEq] at hm1
   obtain ⟨rfl,hm2⟩:=hm1
   simp only [B6] at hf
   have hx:=hr 0 (i',x) (i',v) (by simp) (by simp)
   cases hp:place i' with
   | none=>simp [hp] at hf
   | some p=>
    obtain ⟨off,sz⟩:=p
    cases hc:x.cs? with
    | none=>simp [hp,hc] at hf
    | some xs=>
     simp only [hp,hc] at hf
     split at hf
     ·rename_i hcond
      obtain ⟨hlen,hfit⟩:=hcond
      have hv:=La hx hc
      have hvs:v.cells.size=xs.length:=by simpa using hv.1
      have hzl:cells.size=zero.length:=by simpa using hz.1
      have hset:(v.cells.zipIdx.foldl (fun cs (x:Value × Nat)=>cs.setIfInBounds (off+x.2) x.1) cells).toList=Bd cells.toList off v.cells.toList:=by
       rw [← Array.foldl_toList,Array.toList_zipIdx]
       exact Re off v.cells.toList 0 cells
      have hnew:RL (Ar θ M w) (Bd zero off xs) (v.cells.zipIdx.foldl (fun cs (x:Value × Nat)=>cs.setIfInBounds (off+x.2) x.1) cells).toList:=by
       rw [hset,D5 xs zero off hfit,D5 _ _ _ (by simp [hvs,hzl]; omega)]
       have e1:off+v.cells.toList.length=off+xs.length:=by simp [hvs]
       rw [e1]
       exact ((hz.take off).append hv).append (hz.drop _)
      obtain ⟨out,h1,h2⟩:=U7 place r vs _ _ cs hm2 (fun i p q hi hq=>hr (i+1) p q (by simpa using hi) (by simpa using hq)) hnew hf
      refine ⟨out,?_,h2⟩
      simp only [Instr.fill,hp]
      rw [if_neg (by simp [hvs,hzl,hlen]; omega)]
      exact h1
     ·cases hf
  | [],hm=>simp at hm
theorem Aaa {α β:Type} (f:α→Sem β) (g:α→β) (w:World):∀ (l:List α),(∀ x ∈ l,(f x).run P w=.ok (g x) w)→(l.mapM f).run P w=.ok (l.map g) w
 | [],_=>by simp
 | x :: l,h=>by
  have ih:=Aaa f g w l (fun y hy=>h y (by simp [hy]))
  simp [List.mapM_cons,h x (by simp),ih]
theorem Po (h:Av N B S θ M w st a) (hd:∀ k,o.dst=some k→k < N) {t:TypeId} {parts:Array (Nat × Operand)} (ho:o.op=.build t parts) {fs:List (Nat × Nat)} (hk:(Ab P t).k=.struct fs)
  (hz:(Ab P t).zero.all Value.oneCell'=true) (hsz:(Ab P t).sz=(Ab P t).zero.length) (hpos:0 < (Ab P t).sz) (hfs:fs.all (fun f=>(Ab P f.2).agg.isSome)=true) {cs:List AV}
  (hf:B6 (E7 (Ab P t).zero) (fun i=>(fs[i]?).map fun f=>(f.1,(Ab P f.2).sz)) (parts.toList.map fun p=>(p.1,ev st.t p.2))=some cs) (hlv:(AV.agg cs).lives st.o) :
  Dr P nb N B S θ M w (st.put o.dst (.agg cs)) o a:=by
 have hg:∀ k,(Ab P t).k=k→k≠.bad:=fun k hk' e=>by rw [hk] at hk'; rw [← hk'] at e; cases e
 obtain ⟨z,hz1,hz2⟩:=Fl (w:=w) hg hsz hpos
 obtain ⟨fields,hu,rfl⟩:=M7 hk
 have hm:(fields.mapM fun f=>(do pure (f.offset,← Go.sizeOf f.type):Sem (Nat × Nat))).run P w=.ok (fields.map fun f=>(f.offset,(Ab P f.type).sz)) w:=by
  have:=Aaa (P:=P) (fun f:Field=>(do pure (f.offset,← Go.sizeOf f.type):Sem (Nat × Nat))) (fun f=>(f.offset,(Ab P f.type).sz)) w fields.toList (fun f hf'=>by
   have h1:=List.all_eq_true.1 hfs (f.offset,f.type) (List.mem_map.2 ⟨f,hf',rfl⟩)
   obtain ⟨g,hg'⟩:=Option.isSome_iff_exists.1 h1
   simp [Cd (w:=w) (M4 hg')])
  rw [Array.mapM_eq_mapM_toList,Sem.run_map,this]
  simp only [Result.andThen_ok]
  congr 1
  apply Array.ext'
  simp
 obtain ⟨out,h1,h2⟩:=U7 (θ:=θ) (M:=M) (w:=w) (fun i=>((fields.map fun f=>(f.offset,(Ab P f.type).sz)):Array (Nat × Nat))[i]?) (parts.toList.map fun p=>(p.1,ev st.t p.2)) (parts.toList.map fun p=>(p.1,a.eval p.2))
  (E7 (Ab P t).zero) z.cells cs (by simp [List.map_map,Function.comp_def]) (fun i p q hi hq=>by
   simp only [List.getElem?_map,Option.map_eq_some_iff] at hi hq
   obtain ⟨y,hy,rfl⟩:=hi
   obtain ⟨y',hy',rfl⟩:=hq
   rw [hy] at hy'; cases hy'
   exact A0 h y.2) (by rw [hz2]; exact Tq (fun v hv=>.p _ _ (.val _ hv)) hz) (by
   rw [← hf]; congr 1; funext i; simp [Function.comp_def])
 refine Cc h hd (v:=.agg out) ?_ (.agg cs out (by simpa using h2.1) (fun i hi=>?_) (fun i x hi=>?_)) hlv
 ·simp only [execOp,ho]
  exact Te (by simp only [Instr.build,Sem.run_bind,hz1,Result.andThen_ok,Bt hu,hm,Array.toList_map]; rw [show (List.map (fun x:Nat × Operand=>(x.1,a.eval x.2)) parts.toList)=parts.toList.map fun p=>(p.1,a.eval p.2) from rfl,h1]; rfl)
 ·obtain ⟨v,h3,h4,_⟩:=h2.2 i cs[i] (List.getElem?_eq_getElem hi)
  have:out[i]?=some v:=by simpa using h3
  simpa [Array.getD_eq_getD_getElem?,this] using h4
 ·obtain ⟨v,h3,_,h4⟩:=h2.2 i x hi
  have:out[i]?=some v:=by simpa using h3
  simpa [Array.getD_eq_getD_getElem?,this] using h4
theorem Sp (h:Av N B S θ M w st a) (hd:∀ k,o.dst=some k→k < N) {t e:TypeId} {n:Nat} {parts:Array (Nat × Operand)} (ho:o.op=.build t parts) (hk:(Ab P t).k=.arr n e) (hg:∀ k,(Ab P e).k=k→k≠.bad)
  (hz:(Ab P t).zero.all Value.oneCell'=true) (hsz:(Ab P t).sz=(Ab P t).zero.length) (hpos:0 < (Ab P t).sz) {cs:List AV}
  (hf:B6 (E7 (Ab P t).zero) (fun i=>some (i * (Ab P e).sz,(Ab P e).sz)) (parts.toList.map fun p=>(p.1,ev st.t p.2))=some cs) (hlv:(AV.agg cs).lives st.o) :
  Dr P nb N B S θ M w (st.put o.dst (.agg cs)) o a:=by
 have hgt:∀ k,(Ab P t).k=k→k≠.bad:=fun k hk' e=>by rw [hk] at hk'; rw [← hk'] at e; cases e
 obtain ⟨z,hz1,hz2⟩:=Fl (w:=w) hgt hsz hpos
 have hu:=Mn hk
 obtain ⟨out,h1,h2⟩:=U7 (θ:=θ) (M:=M) (w:=w) (fun i=>some (i * (Ab P e).sz,(Ab P e).sz)) (parts.toList.map fun p=>(p.1,ev st.t p.2)) (parts.toList.map fun p=>(p.1,a.eval p.2))
  (E7 (Ab P t).zero) z.cells cs (by simp [List.map_map,Function.comp_def]) (fun i p q hi hq=>by
   simp only [List.getElem?_map,Option.map_eq_some_iff] at hi hq
   obtain ⟨y,hy,rfl⟩:=hi
   obtain ⟨y',hy',rfl⟩:=hq
   rw [hy] at hy'; cases hy'
   exact A0 h y.2) (by rw [hz2]; exact Tq (fun v hv=>.p _ _ (.val _ hv)) hz) hf
 refine Cc h hd (v:=.agg out) ?_ (.agg cs out (by simpa using h2.1) (fun i hi=>?_) (fun i x hi=>?_)) hlv
 ·simp only [execOp,ho]
  exact Te (by simp only [Instr.build,Sem.run_bind,hz1,Result.andThen_ok,Bt hu,Cd (w:=w) hg,Array.toList_map]; rw [show (List.map (fun x:Nat × Operand=>(x.1,a.eval x.2)) parts.toList)=parts.toList.map fun p=>(p.1,a.eval p.2) from rfl,h1]; rfl)
 ·obtain ⟨v,h3,h4,_⟩:=h2.2 i cs[i] (List.getElem?_eq_getElem hi)
  have:out[i]?=some v:=by simpa using h3
  simpa [Array.getD_eq_getD_getElem?,this] using h4
 ·obtain ⟨v,h3,_,h4⟩:=h2.2 i x hi
  have:out[i]?=some v:=by simpa using h3
  simpa [Array.getD_eq_getD_getElem?,this] using h4
end
section
variable {P:Program} {nb N B:Nat} {S:Nat→Prop} {θ:Nat→Loc} {M:Nat→Prop} {w:World} {st st':St} {a:Act} {o:Oper} {d:Nat} {e:Eff}
theorem Qf {α:Type} (Q:α→Prop):∀ (vs cs:List α) (off:Nat),(∀ (i:Nat) (x:α),cs[i]?=some x→Q x)→(∀ (i:Nat) (x:α),vs[i]?=some x→Q x)→∀ (i:Nat) (x:α),(Bd cs off vs)[i]?=some x→Q x
 | [],cs,off,hc,_,i,x,hx=>hc i x hx
 | v :: vs,cs,off,hc,hv,i,x,hx=>Qf Q vs (cs.set off v) (off+1) (fun i x hx=>by
   rw [List.getElem?_set] at hx
   split at hx
   ·split at hx
    ·cases hx; exact hv 0 _ (by simp)
    ·cases hx
   ·exact hc i x hx) (fun i x hx=>hv (i+1) x (by simpa using hx)) i x hx
theorem Ed {os:Nat→Option AO} (place:Nat→Option (Nat × Nat)):∀ (parts:List (Nat × AV)) (zero cs:List AV),(∀ (i:Nat) (x:AV),zero[i]?=some x→x.lives os)→(∀ p ∈ parts,p.2.lives os) →
  B6 zero place parts=some cs→∀ (i:Nat) (x:AV),cs[i]?=some x→x.lives os
 | [],zero,cs,hz,_,hf=>by simp only [B6,Option.some.injEq] at hf; subst hf; exact hz
 | (i,x) :: r,zero,cs,hz,hp,hf=>by
  simp only [B6] at hf
  cases h1:place i with
  | none=>simp [h1] at hf
  | some p=>
   cases h2:x.cs? with
   | none=>simp [h1,h2] at hf
   | some xs=>
    simp only [h1,h2] at hf
    split at hf
    ·exact Ed place r _ cs (Qf _ _ _ _ hz (Nd (hp (i,x) (by simp)) h2)) (fun p hp'=>hp p (by simp [hp'])) hf
    ·cases hf
def FL (M:Nat→Prop) (w:World) (k:Nat) (es:List (List PV)) (vs:List Value):Prop:=
 ∀ (i:Nat) (e:List PV) (j:Nat) (x:PV),es[i]?=some e→e[j]?=some x→∃ v,vs[i * k+j]?=some v∧Cp M w x v
theorem Tj {l:Loc} {k:Nat} {es:List (List PV)} {vs:List Value} {e:TypeId} (hk:∀ (i:Nat) (e:List PV),es[i]?=some e→e.length=k) (h0:l.nil=false) (hc:es.length≤l.cap)
  (hb:w.heap[l.blk]?=some (.cells vs.toArray e (0,0))) (hs:vs.length=l.cap * k) (h1:∀ (i:Nat) (v:Value),vs[i]?=some v→v.oneCell'=true) (h:FL M w k es vs):Pv θ M w l (.arr k es):=by
 refine ⟨hk,.inr ⟨h0,hc,vs.toArray,e,hb,by simpa using hs,fun i hi=>?_,fun i e j x hi hj=>?_⟩⟩
 ·have hi':i < vs.length:=by simpa using hi
  have:=h1 i vs[i] (List.getElem?_eq_getElem hi')
  simpa [Array.getD_eq_getD_getElem?,hi'] using this
 ·obtain ⟨v,h2,h3⟩:=h i e j x hi hj
  simpa [Array.getD_eq_getD_getElem?,h2] using h3
theorem Li (h:Av N B S θ M w st a) {dk dd:Nat} (hdst:o.dst=some dk) (hdN:dk < N) (hd4:nb≤dd) (hfree:st.o dd=none) {k:Nat} {es:List (List PV)} {vs:List Value} {t:TypeId} {cap:Nat}
  {w1:World} (hw1:w1=w∨w1=w.drew) (hk:∀ (i:Nat) (e:List PV),es[i]?=some e→e.length=k) (hc:es.length≤cap) (hs:vs.length=cap * k) (h1:∀ (i:Nat) (v:Value),vs[i]?=some v→v.oneCell'=true) (hfl:FL M w k es vs) :
  Adv nb N B S θ M w ((st.setO dd (.arr k es)).put o.dst (.own dd es.length)) (a.put o.dst (.slice (some ⟨w.heap.size,0,none⟩) es.length cap)) (w1.alloc (.cells vs.toArray t)):=by
 have hS1:Av N B S θ M w1 st a:=by rcases hw1 with rfl | rfl; exact h; exact h.drew
 have hK1:Bx (fun b=>B≤b∨S b) w w1:=by rcases hw1 with rfl | rfl; exact Bx.refl _ _; exact Bx.drew _ _
 have hsz:w1.heap.size=w.heap.size:=by rcases hw1 with rfl | rfl <;> rfl
 have hfl:FL M w1 k es vs:=by rcases hw1 with rfl | rfl; exact hfl; exact fun i e j x hi hj=>let ⟨v,h2,h3⟩:=hfl i e j x hi hj; ⟨v,h2,h3.drew⟩
 have hk':∀ b,b < w1.heap.size→(w1.alloc (.cells vs.toArray t)).heap[b]?=w1.heap[b]?:=fun b hb=>Kh w1 _ hb
 have hM:∀ b,b < w1.heap.size→(M b∨(false=false∧b=w1.heap.size))→M b:=fun b hb hm=>hm.elim id (fun e=>by omega)
 have hS:=hS1.new (d:=dd) hfree (w':=w1.alloc (.cells vs.toArray t)) (l:=⟨w1.heap.size,cap,false⟩) (o:=.arr k es) (by simp) hk' (fun _=>⟨Nat.le_refl _,by simp⟩)
  (Tj hk rfl hc (Kz w1 _) hs h1 (fun i e j x hi hj=>let ⟨v,h2,h3⟩:=hfl i e j x hi hj; ⟨v,h2,h3.mono (fun b hb _=>hk' b hb) hM⟩)) (AO.lives_arr _ _ _)
 rw [← hsz]
 refine ⟨_,_,hS.put (d:=o.dst) (fun k e=>by rw [hdst] at e; cases e; exact hdN) (x:=.own dd es.length) (v:=.slice (some ⟨w1.heap.size,0,none⟩) es.length cap) ?_ ?_,hK1.trans (Bx.alloc _ _ _) (fun _ _ h=>h),fun n hn=>Bb (by omega),fun b _ hb=>.inl hb⟩
 ·have:=Ar.own (θ:=Fj θ dd ⟨w1.heap.size,cap,false⟩) (M:=fun b=>M b∨(false=false∧b=w1.heap.size)) (w:=w1.alloc (.cells vs.toArray t)) dd es.length (by simp) (by simpa using hc)
  simpa using this
 ·intro m hm
  simp only [AV.clean,bne_eq_false_iff_eq] at hm
  subst hm
  simp [St.setO]
theorem Ug (h:Av N B S θ M w st a) {dk dd:Nat} (hdst:o.dst=some dk) (hdN:dk < N) (hd4:nb≤dd) (hfree:st.o dd=none) (k:Nat) :
  Adv nb N B S θ M w ((st.setO dd (.arr k [])).put o.dst (.own dd 0)) (a.put o.dst (.slice none 0 0)) w:=by
 have hS:=h.new (d:=dd) hfree (w':=w) (l:=⟨0,0,true⟩) (o:=.arr k []) (Nat.le_refl _) (fun _ _=>rfl) (fun e=>by cases e) ⟨by simp,.inl ⟨rfl,rfl⟩⟩ (AO.lives_arr _ _ _)
 refine ⟨_,_,hS.put (d:=o.dst) (fun k e=>by rw [hdst] at e; cases e; exact hdN) (x:=.own dd 0) (v:=.slice none 0 0) (.ownNil dd (by simp)) ?_,Bx.refl _ _,fun n hn=>Bb (by omega),fun b _ hb=>.inl hb⟩
 intro m hm
 simp only [AV.clean,bne_eq_false_iff_eq] at hm
 subst hm
 simp [St.setO]
theorem Aa1 {es:List (List Value)} {k:Nat} (hk:∀ e ∈ es,e.length=k):∀ {i:Nat} {e:List Value} {j:Nat} {x:Value},es[i]?=some e→e[j]?=some x→es.flatten[i * k+j]?=some x:=by
 induction es with
 | nil=>intro i e j x hi; simp at hi
 | cons y r ih=>
  intro i e j x hi hj
  have hy:=hk y (by simp)
  cases i with
  | zero=>
   simp only [List.getElem?_cons_zero,Option.some.injEq] at hi
   subst hi
   have hlt:j < y.length:=(List.getElem?_eq_some_iff.1 hj).1
   simp only [List.flatten_cons,Nat.zero_mul,Nat.zero_add]
   rw [List.getElem?_append,if_pos hlt]
   exact hj
  | succ i=>
   have:=ih (fun e he=>hk e (by simp [he])) (i:=i) (e:=e) (j:=j) (x:=x) (by simpa using hi) hj
   rw [List.flatten_cons,List.getElem?_append,hy]
   have e1:(i+1) * k+j=k+(i * k+j):=by rw [Nat.add_mul]; omega
   rw [e1,if_neg (by omega)]
   rw [show k+(i * k+j) - k=i * k+j by omega]
   exact this
theorem T6 {α:Type} {es:List (List α)} {k:Nat} (hk:∀ e ∈ es,e.length=k):es.flatten.length=es.length * k:=by
 induction es with
 | nil=>simp
 | cons y r ih=>rw [List.flatten_cons,List.length_append,hk y (by simp),ih (fun e he=>hk e (by simp [he])),List.length_cons,Nat.add_mul]; omega
end
section
variable {P:Program} {nb N B:Nat} {S:Nat→Prop} {θ:Nat→Loc} {M:Nat→Prop} {w:World} {st st':St} {a:Act} {o:Oper} {d:Nat} {e:Eff}
theorem Nk:∀ {cs:List AV} {ps:List PV},Lv cs=some ps→cs=ps.map .p
 | [],ps,h=>by simp only [Lv,Option.some.injEq] at h; subst h; rfl
 | x :: r,ps,h=>by
  simp only [Lv] at h
  cases hx:x.pv? with
  | none=>simp [hx] at h
  | some y=>
   cases hr:Lv r with
   | none=>simp [hx,hr] at h
   | some ys=>
    simp only [hx,hr,Option.some.injEq] at h
    subst h
    rw [Nk hr]
    cases x <;> simp [AV.pv?] at hx
    subst hx; rfl
theorem Rj (k:Nat):∀ (parts:List (Nat × AV)) (vals:List (Nat × Value)) (i:Nat) (es:List (List PV)) (cells:Array Value) (done:List Value),
  vals.map (·.1)=parts.map (·.1)→(∀ (i:Nat) (p:Nat × AV) (q:Nat × Value),parts[i]?=some p→vals[i]?=some q→Ar θ M w p.2 q.2) →
  Bu k i parts=some es→done.length=i * k→cells.toList.take (i * k)=done→(i+parts.length) * k≤cells.size →
  ∃ out vs,Instr.fill (fun i=>some (i * k,k)) cells vals=some out∧out.size=cells.size∧out.toList.take ((i+parts.length) * k)=done++vs∧es.length=parts.length∧vs.length=es.length * k ∧
   (∀ (i:Nat) (e:List PV),es[i]?=some e→e.length=k)∧(∀ (i:Nat) (v:Value),vs[i]?=some v→v.oneCell'=true)∧FL M w k es vs
 | [],vals,i,es,cells,done,hm,_,hp,hd,ht,hle=>by
  have:vals=[]:=by simpa using hm
  subst this
  simp only [Bu,Option.some.injEq] at hp
  subst hp
  exact ⟨cells,[],rfl,rfl,by simpa using ht,rfl,by simp,by simp,by simp,fun i e j x hi=>by simp at hi⟩
 | (j,x) :: r,vals,i,es,cells,done,hm,hr,hp,hd,ht,hle=>by
  match vals,hm with
  | (j',v) :: us,hm1=>
   simp only [List.map_cons,List.cons.injEq] at hm1
   obtain ⟨rfl,hm2⟩:=hm1
   simp only [Bu] at hp
   cases hb:x.cs?.bind Lv with
   | none=>simp [hb] at hp
   | some c=>
    cases hq:Bu k (i+1) r with
    | none=>simp [hb,hq] at hp
    | some es'=>
     simp only [hb,hq] at hp
     split at hp
     ·rename_i hcond
      obtain ⟨rfl,hck⟩:=hcond
      have hp:=Option.some.inj hp
      subst hp
      obtain ⟨xs,hxs,hxc⟩:=Option.bind_eq_some_iff.1 hb
      have hxp:=Nk hxc
      have hv:=La (hr 0 (j',x) (j',v) (by simp) (by simp)) hxs
      have hvs:v.cells.size=k:=by have:=hv.1; rw [hxp] at this; simp at this; omega
      simp only [List.length_cons] at hle
      have hle2:j' * k+k≤cells.size:=by
       have:(j'+1) * k≤(j'+(r.length+1)) * k:=Nat.mul_le_mul_right _ (by omega)
       rw [Nat.add_mul] at this; omega
      have hset:(v.cells.zipIdx.foldl (fun cs (x:Value × Nat)=>cs.setIfInBounds (j' * k+x.2) x.1) cells).toList=Bd cells.toList (j' * k) v.cells.toList:=by
       rw [← Array.foldl_toList,Array.toList_zipIdx]
       exact Re (j' * k) v.cells.toList 0 cells
      have hpc:=D5 v.cells.toList cells.toList (j' * k) (by simp [hvs]; exact hle2)
      generalize hA:(v.cells.zipIdx.foldl (fun cs (x:Value × Nat)=>cs.setIfInBounds (j' * k+x.2) x.1) cells)=A at *
      rw [hpc] at hset
      have hAs:A.size=cells.size:=by
       have:=congrArg List.length hset
       simp [hvs] at this; omega
      have htk:A.toList.take ((j'+1) * k)=done++v.cells.toList:=by
       rw [hset,ht]
       have e1:(j'+1) * k=(done++v.cells.toList).length:=by simp [hd,hvs,Nat.add_mul]
       rw [e1]; exact List.take_left
      obtain ⟨out,vs,h1,h2,h3,h4,h5,h6,h7,h8⟩:=Rj k r us (j'+1) es' A (done++v.cells.toList) hm2 (fun i p q hi hq=>hr (i+1) p q (by simpa using hi) (by simpa using hq)) hq
       (by simp [hd,hvs,Nat.add_mul]) htk (by rw [hAs,show j'+1+r.length=j'+(r.length+1) by omega]; exact hle)
      refine ⟨out,v.cells.toList++vs,?_,by rw [h2,hAs],?_,by simp [h4],?_,?_,?_,?_⟩
      ·simp only [Instr.fill]
       rw [if_neg (by simp [hvs]; omega),hA]
       exact h1
      ·rw [List.length_cons,show j'+(r.length+1)=j'+1+r.length by omega,h3,List.append_assoc]
      ·simp [h5,hvs,Nat.add_mul]; omega
      ·intro i e hi
       cases i with
       | zero=>simp at hi; subst hi; exact hck
       | succ i=>exact h6 i e (by simpa using hi)
      ·intro i u hu
       rw [List.getElem?_append] at hu
       split at hu
       ·rename_i hlt
        obtain ⟨z,hz1,hz2,_⟩:=hv.2 i (xs[i]'(by have:=hv.1; simp at this hlt; omega)) (List.getElem?_eq_getElem _)
        rw [hz1] at hu; cases hu; exact hz2
       ·exact h7 _ u hu
      ·intro i e j x hi hj
       cases i with
       | zero=>
        simp only [List.getElem?_cons_zero,Option.some.injEq] at hi
        subst hi
        have hlt:j < v.cells.toList.length:=by have:=(List.getElem?_eq_some_iff.1 hj).1; simp [hvs]; omega
        obtain ⟨z,hz1,_,hz3⟩:=hv.2 j (.p x) (by rw [hxp]; simp [hj])
        cases hz3 with
        | p _ _ hp=>exact ⟨z,by simp only [Nat.zero_mul,Nat.zero_add]; rw [List.getElem?_append,if_pos hlt]; exact hz1,hp⟩
       | succ i=>
        obtain ⟨u,hu1,hu2⟩:=h8 i e j x (by simpa using hi) hj
        refine ⟨u,?_,hu2⟩
        have e1:(i+1) * k+j=k+(i * k+j):=by rw [Nat.add_mul]; omega
        rw [List.getElem?_append,e1,if_neg (by simp [hvs])]
        simp only [Array.length_toList,hvs]
        rw [show k+(i * k+j) - k=i * k+j by omega]
        exact hu1
     ·cases hp
  | [],hm=>simp at hm
theorem Rm (h:Av N B S θ M w st a) {t e:TypeId} {len:Nat} {parts:Array (Nat × Operand)} (ho:o.op=.buildSlice t len parts) {dk dd:Nat} (hdst:o.dst=some dk) (hdN:dk < N) (hd4:nb≤dd) (hfree:st.o dd=none)
  (hk:(Ab P t).k=.sl e) (hg:∀ k,(Ab P e).k=k→k≠.bad) {es:List (List PV)} (hp:Bu (Ab P e).sz 0 (parts.toList.map fun p=>(p.1,ev st.t p.2))=some es) (hlen:es.length=len)
  (h24:len * (Ab P e).sz≤16777216) (hz:len=0∨((Ab P e).sz=(Ab P e).zero.length∧0 < (Ab P e).sz)) :
  Dr P nb N B S θ M w ((st.setO dd (.arr (Ab P e).sz es)).put o.dst (.own dd len)) o a:=by
 subst hlen
 have hu:=Hn hk
 have hzero:∃ z:Array Value,(es.length * (Ab P e).sz=0→z=#[])∧(es.length * (Ab P e).sz≠0→∃ z',(zeroValue e).run P w=.ok z' w∧z=z'.cells):=by
  by_cases h0:es.length * (Ab P e).sz=0
  ·exact ⟨#[],fun _=>rfl,fun h=>absurd h0 h⟩
  ·rcases hz with h1 | ⟨h1,h2⟩
   ·exact absurd (by rw [h1]; simp) h0
   ·obtain ⟨z,hz1,_⟩:=Fl (P:=P) (w:=w) hg h1 h2
    exact ⟨z.cells,fun h=>absurd h h0,fun _=>⟨z,hz1,rfl⟩⟩
 obtain ⟨z,hza,hzb⟩:=hzero
 have hpl:(parts.toList.map fun p=>(p.1,ev st.t p.2)).length=es.length:=by
  have:∀ (k i:Nat) (l:List (Nat × AV)) (es:List (List PV)),Bu k i l=some es→l.length=es.length:=by
   intro k i l
   induction l generalizing i with
   | nil=>intro es h; simp only [Bu,Option.some.injEq] at h; subst h; rfl
   | cons x r ih=>
    intro es h
    obtain ⟨j,x⟩:=x
    simp only [Bu] at h
    cases hb:x.cs?.bind Lv with
    | none=>simp [hb] at h
    | some c=>
     cases hq:Bu k (i+1) r with
     | none=>simp [hb,hq] at h
     | some es'=>
      simp only [hb,hq] at h
      split at h
      ·have h:=Option.some.inj h; subst h; simp [ih _ _ hq]
      ·cases h
  exact this _ _ _ _ hp
 obtain ⟨out,vs,h1,h2,h3,h4,h5,h6,h7,h8⟩:=Rj (θ:=θ) (M:=M) (w:=w) (Ab P e).sz (parts.toList.map fun p=>(p.1,ev st.t p.2)) (parts.toList.map fun p=>(p.1,a.eval p.2)) 0 es
  ((Array.range (es.length * (Ab P e).sz)).map (z[· % z.size]!)) [] (by simp [List.map_map,Function.comp_def]) (fun i p q hi hq=>by
   simp only [List.getElem?_map,Option.map_eq_some_iff] at hi hq
   obtain ⟨y,hy,rfl⟩:=hi
   obtain ⟨y',hy',rfl⟩:=hq
   rw [hy] at hy'; cases hy'
   exact A0 h y.2) hp (by simp) (by simp) (by rw [hpl]; simp)
 have hov:out.toList=vs:=by
  rw [Nat.zero_add,List.nil_append,hpl] at h3
  rw [← h3,List.take_of_length_le]
  simp [h2]
 have hrun:(Instr.buildSlice t es.length (parts.map fun (i,x)=>(i,a.eval x))).run P w=.ok (.slice (some ⟨w.heap.size,0,none⟩) es.length es.length) (w.alloc (.cells out e)):=by
  have h24':¬ (16777216 < es.length * (Ab P e).sz):=by omega
  have h1':Instr.fill (fun i=>some (i * (Ab P e).sz,(Ab P e).sz)) ((Array.range (es.length * (Ab P e).sz)).map (z[· % z.size]!)) (parts.map fun (i,x)=>(i,a.eval x)).toList=some out:=by
   rw [Array.toList_map]; exact h1
  by_cases h0:es.length * (Ab P e).sz=0
  ·have hz0:=hza h0
   subst hz0
   simp only [Instr.buildSlice,Sem.run_bind,Bt hu,Result.andThen_ok,Cd (w:=w) hg]
   rw [if_neg h24',if_pos h0]
   simp only [Sem.run_bind,Sem.run_pure,Result.andThen_ok,h1',newRow,run_newObj]
   rfl
  ·obtain ⟨z',hz1,rfl⟩:=hzb h0
   simp only [Instr.buildSlice,Sem.run_bind,Bt hu,Result.andThen_ok,Cd (w:=w) hg]
   rw [if_neg h24',if_neg h0]
   simp only [Sem.run_bind,hz1,Sem.run_pure,Result.andThen_ok,h1',newRow,run_newObj]
   rfl
 have hadv:=Li (t:=e) (w1:=w) (vs:=out.toList) h hdst hdN hd4 hfree (.inl rfl) h6 (Nat.le_refl _) (by rw [hov]; exact h5) (by rw [hov]; exact h7) (by rw [hov]; exact h8)
 refine ⟨.slice (some ⟨w.heap.size,0,none⟩) es.length es.length,w.alloc (.cells out e),.inl ?_,by simpa using hadv⟩
 simp only [execOp,ho]
 exact Te hrun
theorem So (h:Av N B S θ M w st a) {t e:TypeId} {l c:Operand} (ho:o.op=.makeSlice t l c) {dk dd:Nat} (hdst:o.dst=some dk) (hdN:dk < N) (hd4:nb≤dd) (hfree:st.o dd=none)
  (hk:(Ab P t).k=.sl e) (hg:∀ k,(Ab P e).k=k→k≠.bad) {n:Int} (hl:ev st.t l=.p (.val (.int .i64 n))) (hc:ev st.t c=.p (.val (.int .i64 n))) (h0:0≤n) (h62:n≤4611686018427387904)
  (hby:(Ab P e).bytes * n≤281474976710656) (hz:(Ab P e).zero.all Value.oneCell'=true) (hsz:(Ab P e).sz=(Ab P e).zero.length) (hpos:0 < (Ab P e).sz) :
  Dr P nb N B S θ M w ((st.setO dd (.arr (Ab P e).sz (List.replicate n.toNat ((Ab P e).zero.map .val)))).put o.dst (.own dd n.toNat)) o a:=by
 obtain ⟨i,u,hi,hu⟩:=Ls hg
 obtain ⟨h1,h2,h3⟩:=Sx hi hu
 obtain ⟨z,hzz⟩:∃ z,i.zero=some z:=by
  cases hzi:i.zero with
  | some z=>exact ⟨z,rfl⟩
  | none=>rw [h3] at hsz; simp [Py,hi,hzi] at hsz; omega
 have hzl:z.cells.toList=(Ab P e).zero:=by rw [h3]; simp [Py,hi,hzz]
 have hrun:=run_make (P:=P) w t e i z (Hn hk) hi hzz .i64 .i64 n n h0 (Int.le_refl _) (by rw [h2] at hby; exact hby) (by omega)
 have hzs:z.cells.size=(Ab P e).sz:=by have:=congrArg List.length hzl; simp at this; omega
 generalize hsz':(Ab P e).sz=k at *
 have hget:∀ i j,i < n.toNat→j < k→(madeCells z.cells (n.toNat * k)).toList[i * k+j]?=z.cells.toList[j]?:=by
  intro i j hi' hj
  have hlt:i * k+j < n.toNat * k:=by
   have:(i+1) * k≤n.toNat * k:=Nat.mul_le_mul_right _ (by omega)
   rw [Nat.add_mul] at this; omega
  have hmod:(i * k+j) % k=j:=by rw [Nat.mul_comm,Nat.mul_add_mod,Nat.mod_eq_of_lt hj]
  have hj':j < z.cells.size:=by omega
  simp only [madeCells,Array.toList_map,List.getElem?_map,Array.toList_range,List.getElem?_range hlt,Option.map_some,hzs,hmod]
  rw [getElem!_pos z.cells j hj']
  simp [hj']
 have hadv:=Li (t:=e) (w1:=w) (vs:=(madeCells z.cells (n.toNat * k)).toList) (es:=List.replicate n.toNat ((Ab P e).zero.map .val)) (k:=k) (cap:=n.toNat) h hdst hdN hd4 hfree (.inl rfl)
  (fun i e hi=>by
   rw [List.getElem?_replicate] at hi
   split at hi
   ·cases hi; simp [← hsz]
   ·cases hi) (by simp) (by simp [size_madeCells]) (fun i v hv=>by
   have hlt:i < n.toNat * k:=by have:=(List.getElem?_eq_some_iff.1 hv).1; simpa [size_madeCells] using this
   have h4:=hget (i / k) (i % k) (by rw [Nat.div_lt_iff_lt_mul hpos]; exact hlt) (Nat.mod_lt _ hpos)
   have e9:i / k * k+i % k=i:=by rw [Nat.mul_comm]; exact Nat.div_add_mod i k
   rw [e9,hv] at h4
   have hm:v ∈ z.cells.toList:=List.mem_of_getElem? h4.symm
   rw [hzl] at hm
   exact List.all_eq_true.1 hz v hm) (fun i e j x hi hj=>by
   rw [List.getElem?_replicate] at hi
   split at hi
   ·rename_i hlt
    cases hi
    simp only [List.getElem?_map,Option.map_eq_some_iff] at hj
    obtain ⟨v,hv,rfl⟩:=hj
    have hj':j < k:=by have:=(List.getElem?_eq_some_iff.1 hv).1; omega
    refine ⟨v,by rw [hget i j hlt hj',hzl]; exact hv,.val v (List.all_eq_true.1 hz v (List.mem_of_getElem? hv))⟩
   ·cases hi)
 simp only [List.length_replicate,Array.toArray_toList] at hadv
 refine ⟨.slice (some ⟨w.heap.size,0,none⟩) n.toNat n.toNat,w.alloc (.cells (madeCells z.cells (n.toNat * k)) e),.inl ?_,hadv⟩
 simp only [execOp,ho,Nv (A0 h l) hl,Nv (A0 h c) hc]
 rw [← h1] at hrun
 exact Te hrun
end
section
variable {P:Program} {nb N B:Nat} {S:Nat→Prop} {θ:Nat→Loc} {M:Nat→Prop} {w:World} {st st':St} {a:Act} {o:Oper} {d:Nat} {e:Eff}
structure Ga (M:Nat→Prop) (w:World) (k:Nat) (xs:List (List PV)) (v:Value) (news:List Value):Prop where
 shape:(∃ ad,v=.slice ad 0 0∧xs=[])∨∃ b off c,v=.slice (some ⟨b,off,none⟩) xs.length c∧∀ (j:Nat) (u:Value),news[j]?=some u→w.cell? ⟨b,off+j,none⟩=some u
 len:news.length=xs.length * k
 one:∀ (i:Nat) (u:Value),news[i]?=some u→u.oneCell'=true
 fl:FL M w k xs news
theorem Akk {k:Nat} {xs:List (List PV)} (hk:∀ (i:Nat) (e:List PV),xs[i]?=some e→e.length=k) (cv:Nat→Nat→Value)
  (h:∀ (i:Nat) (e:List PV) (j:Nat) (x:PV),xs[i]?=some e→e[j]?=some x→Cp M w x (cv i j)) :
  ∃ news:List Value,news.length=xs.length * k∧FL M w k xs news∧(∀ (j:Nat) (u:Value),news[j]?=some u→∃ i j',i < xs.length∧j' < k∧j=i * k+j'∧u=cv i j'):=by
 let rows:List (List Value):=(List.range xs.length).map fun i=>(List.range k).map fun j=>cv i j
 have hrk:∀ r ∈ rows,r.length=k:=fun r hr=>by
  simp only [rows,List.mem_map] at hr
  obtain ⟨i,_,rfl⟩:=hr
  simp
 have hget:∀ i j,i < xs.length→j < k→rows.flatten[i * k+j]?=some (cv i j):=fun i j hi hj=>
  Aa1 hrk (i:=i) (e:=(List.range k).map fun j=>cv i j) (by simp [rows,hi]) (by simp [hj])
 have hlen:rows.flatten.length=xs.length * k:=by rw [T6 hrk]; simp [rows]
 refine ⟨rows.flatten,hlen,fun i e j x hi hj=>?_,fun j u hu=>?_⟩
 ·have hi':i < xs.length:=(List.getElem?_eq_some_iff.1 hi).1
  have hj':j < k:=by rw [← hk i e hi]; exact (List.getElem?_eq_some_iff.1 hj).1
  exact ⟨cv i j,hget i j hi' hj',h i e j x hi hj⟩
 ·have hlt:j < xs.length * k:=by rw [← hlen]; exact (List.getElem?_eq_some_iff.1 hu).1
  have hk0:0 < k:=by rcases Nat.eq_zero_or_pos k with h0 | h0; simp [h0] at hlt; exact h0
  have e1:j / k * k+j % k=j:=by rw [Nat.mul_comm]; exact Nat.div_add_mod j k
  have h1:j / k < xs.length:=by rw [Nat.div_lt_iff_lt_mul hk0]; exact hlt
  have h2:=hget (j / k) (j % k) h1 (Nat.mod_lt _ hk0)
  rw [e1,hu] at h2
  exact ⟨j / k,j % k,h1,Nat.mod_lt _ hk0,e1.symm,Option.some.inj h2⟩
theorem Ac7 {x:PV} {v:Value} (hp:Cp M w x v) {xs:List (List PV)} (hx:x.list?=some xs) {k:Nat} (hk:∀ (i:Nat) (e:List PV),xs[i]?=some e→e.length=k):∃ news,Ga M w k xs v news:=by
 have hnil:∀ ad v,v=Value.slice ad 0 0→xs=[]→∃ news,Ga M w k xs v news:=fun ad v h1 h2=>by
  subst h2
  exact ⟨[],.inl ⟨ad,h1,rfl⟩,by simp,by simp,fun i e j x hi=>by simp at hi⟩
 cases hp with
 | val v h1=>
  unfold PV.list? at hx
  split at hx
  ·rename_i heq; cases heq
  ·rename_i heq; cases heq
   exact hnil _ _ rfl (Option.some.inj hx).symm
  ·cases hx
 | nil=>exact hnil _ _ rfl (by simpa [PV.list?] using hx.symm)
 | emp=>exact hnil _ _ rfl (by simpa [PV.list?] using hx.symm)
 | sl es b off c k' cv hk' hc h1 h2=>
  simp only [PV.list?,Option.some.injEq] at hx
  subst hx
  obtain ⟨news,hl,hfl,hnews⟩:=Akk hk cv h2
  refine ⟨news,.inr ⟨b,off,c,rfl,fun j u hu=>?_⟩,hl,fun j u hu=>?_,hfl⟩
  ·obtain ⟨i,j',hi,hj',rfl,rfl⟩:=hnews j u hu
   have hlen:=hk i es[i] (List.getElem?_eq_getElem hi)
   have hlen':=hk' i es[i] (List.getElem?_eq_getElem hi)
   have hkk:k=k':=by omega
   subst hkk
   exact (h1 i es[i] j' (es[i][j']'(by omega)) (List.getElem?_eq_getElem hi) (List.getElem?_eq_getElem _)).2
  ·obtain ⟨i,j',hi,hj',rfl,rfl⟩:=hnews j u hu
   have hlen:=hk i es[i] (List.getElem?_eq_getElem hi)
   exact (h2 i es[i] j' (es[i][j']'(by omega)) (List.getElem?_eq_getElem hi) (List.getElem?_eq_getElem _)).oneCell
 | ro cs b off cv h1 h2=>simp [PV.list?] at hx
theorem Zz (h:Av N B S θ M w st a) {n len k:Nat} {es:List (List PV)} (hn:st.o n=some (.arr k es)) (hle:len≤es.length) {v:Value} (hv:Ar θ M w (.own n len) v):∃ news,Ga M w k (es.take len) v news:=by
 obtain ⟨hk,h1⟩:=h.ob n _ hn
 rcases h1 with ⟨h0,hes⟩ | ⟨h0,hc,cur,e,hb,hs,ho,hx⟩
 ·subst hes
  have:len=0:=by simpa using hle
  subst this
  cases hv with
  | own _ _ h0' _=>rw [h0] at h0'; cases h0'
  | ownNil _ _=>exact ⟨[],.inl ⟨_,rfl,by simp⟩,by simp,by simp,fun i e j x hi=>by simp at hi⟩
 ·have hlt:∀ j,j < len * k→j < cur.size:=fun j hj=>by
   rw [hs]; exact Nat.lt_of_lt_of_le hj (Nat.mul_le_mul_right _ (by omega))
  cases hv with
  | own _ _ _ hcap=>
   refine ⟨cur.toList.take (len * k),.inr ⟨(θ n).blk,0,(θ n).cap,by simp [Nat.min_eq_left hle],fun j u hu=>?_⟩,?_,fun i u hu=>?_,fun i e' j x hi hj=>?_⟩
   ·rw [List.getElem?_take] at hu
    split at hu
    ·rw [Nat.zero_add]; exact C2 hb (by simpa using hu)
    ·cases hu
   ·have:len * k≤cur.size:=by rw [hs]; exact Nat.mul_le_mul_right _ (by omega)
    simp [Nat.min_eq_left hle,Nat.min_eq_left this]
   ·rw [List.getElem?_take] at hu
    split at hu
    ·rename_i hj
     have hj':=hlt i hj
     have:=ho i hj'
     have hu':cur[i]?=some u:=by simpa using hu
     simpa [Array.getD_eq_getD_getElem?,hu'] using this
    ·cases hu
   ·rw [List.getElem?_take] at hi
    split at hi
    ·rename_i hil
     have:=hx i e' j x hi hj
     have hjk:j < k:=by rw [← hk i e' hi]; exact (List.getElem?_eq_some_iff.1 hj).1
     have hlt2:i * k+j < len * k:=by
      have:(i+1) * k≤len * k:=Nat.mul_le_mul_right _ (by omega)
      rw [Nat.add_mul] at this; omega
     refine ⟨cur.getD (i * k+j) undef,?_,this⟩
     rw [List.getElem?_take,if_pos hlt2]
     have:=hlt _ hlt2
     simp [this]
    ·cases hi
  | ownNil _ h0'=>rw [h0] at h0'; cases h0'
theorem Cz {α:Type} (k:Nat):∀ (n:Nat) (l:List α),(Jf k n l).length=n
 | 0,_=>rfl
 | n+1,l=>by simp [Jf,Cz k n]
theorem Je {α:Type} (k:Nat):∀ (n:Nat) (l:List α) (i:Nat),i < n→(Jf k n l)[i]?=some ((l.drop (i * k)).take k)
 | 0,_,i,h=>by omega
 | n+1,l,0,_=>by simp [Jf]
 | n+1,l,i+1,h=>by
  simp only [Jf,List.getElem?_cons_succ]
  rw [Je k n _ i (by omega),List.drop_drop]
  congr 2
  rw [Nat.add_mul]; congr 1; omega
theorem Zw (h:Av N B S θ M w st a) {n off k len:Nat} {cs:List AV} (hn:st.o n=some (.cells cs)) (hle:off+len * k≤cs.length) {ps:List PV} (hp:Lv ((cs.drop off).take (len * k))=some ps) {v:Value} (hv:Ar θ M w (.csl n off k len) v) :
  ∃ news,Ga M w k (Jf k len ps) v news:=by
 obtain ⟨hnil,cur,e,hb,hrl⟩:=Aco h hn
 have hps:=Nk hp
 have hsub:RL (Ar θ M w) (ps.map .p) ((cur.toList.drop off).take (len * k)):=by rw [← hps]; exact (hrl.drop off).take _
 have hlen:ps.length=len * k:=by have:=congrArg List.length hps; simp at this; omega
 cases hv with
 | csl _ _ _ _ cap hcap=>
  refine ⟨(cur.toList.drop off).take (len * k),.inr ⟨(θ n).blk,off,cap,by rw [Cz],fun j u hu=>?_⟩,?_,fun i u hu=>?_,fun i e' j x hi hj=>?_⟩
  ·rw [List.getElem?_take] at hu
   split at hu
   ·rw [List.getElem?_drop] at hu
    exact C2 hb (by simpa using hu)
   ·cases hu
  ·rw [Cz,hsub.1]; simpa using hlen
  ·have hlt:i < (ps.map AV.p).length:=by rw [← hsub.1]; exact (List.getElem?_eq_some_iff.1 hu).1
   obtain ⟨z,h1,h2,_⟩:=hsub.2 i _ (List.getElem?_eq_getElem hlt)
   rw [hu] at h1; cases h1; exact h2
  ·have hil:i < len:=by have:=(List.getElem?_eq_some_iff.1 hi).1; rwa [Cz] at this
   rw [Je k len ps i hil] at hi
   have hi:=Option.some.inj hi
   subst hi
   rw [List.getElem?_take] at hj
   split at hj
   ·rename_i hjk
    rw [List.getElem?_drop] at hj
    obtain ⟨z,h1,_,h3⟩:=hsub.2 (i * k+j) (.p x) (by simp [hj])
    cases h3 with
    | p _ _ hp=>exact ⟨z,h1,hp⟩
   ·cases hj
theorem Adp (h:Av N B S θ M w st a) {x:AV} {v:Value} (hv:Ar θ M w x v) {xs:List (List PV)} (hx:Dd st.o x=some xs) {k:Nat} (hk:∀ (i:Nat) (e:List PV),xs[i]?=some e→e.length=k):∃ news,Ga M w k xs v news:=by
 cases x with
 | p x=>
  cases hv with
  | p _ _ hp=>exact Ac7 hp hx hk
 | own n len=>
  simp only [Dd] at hx
  split at hx
  ·rename_i k' es hn
   split at hx
   ·rename_i hle
    have hx:=Option.some.inj hx
    subst hx
    obtain ⟨news,hE⟩:=Zz h hn hle hv
    rcases Nat.eq_zero_or_pos (es.take len).length with h0 | h0
    ·have h0':es.take len=[]:=List.eq_nil_of_length_eq_zero h0
     refine ⟨news,hE.shape,by rw [hE.len,h0]; simp,hE.one,fun i e j x hi=>by rw [h0'] at hi; simp at hi⟩
    ·have hk1:=hk 0 _ (List.getElem?_eq_getElem h0)
     have hk2:=(h.ob n _ hn).1 0 (es.take len)[0] (by
      have:=List.getElem?_eq_getElem h0
      rw [List.getElem?_take] at this
      split at this
      ·exact this
      ·cases this)
     have:k'=k:=by omega
     subst this
     exact ⟨news,hE⟩
   ·cases hx
  ·cases hx
 | csl n off k' len=>
  simp only [Dd] at hx
  split at hx
  ·rename_i cs hn
   split at hx
   ·rename_i hle
    obtain ⟨ps,hp,rfl⟩:=Option.map_eq_some_iff.1 hx
    obtain ⟨news,hE⟩:=Zw h hn hle hp hv
    rcases Nat.eq_zero_or_pos len with h0 | h0
    ·subst h0
     exact ⟨news,hE.shape,by rw [hE.len,Cz]; simp,hE.one,fun i e j x hi=>by simp [Jf] at hi⟩
    ·have hps:=Nk hp
     have hlen:ps.length=len * k':=by have:=congrArg List.length hps; simp at this; omega
     have h1:=hk 0 _ (Je k' len ps 0 h0)
     have:k'=k:=by
      have h2:k'≤len * k':=Nat.le_mul_of_pos_left _ h0
      simp at h1; omega
     subst this
     exact ⟨news,hE⟩
   ·cases hx
  ·cases hx
 | _=>simp [Dd] at hx
end
section
variable {P:Program} {nb N B:Nat} {S:Nat→Prop} {θ:Nat→Loc} {M:Nat→Prop} {w:World} {st st':St} {a:Act} {o:Oper} {d:Nat} {e:Eff}
theorem Ga.drew {k:Nat} {xs:List (List PV)} {v:Value} {news:List Value} (h:Ga M w k xs v news):Ga M w.drew k xs v news:=
 ⟨h.shape,h.len,h.one,fun i e j x hi hj=>let ⟨u,h1,h2⟩:=h.fl i e j x hi hj; ⟨u,h1,h2.drew⟩⟩
theorem Ga.firstCells {k:Nat} {xs:List (List PV)} {v:Value} {news:List Value} (h:Ga M w k xs v news):(Builtin.firstCells k xs.length v).run P w=.ok news.toArray w∧(Builtin.lenOf v).run P w=.ok xs.length w:=by
 rcases h.shape with ⟨ad,rfl,hx⟩ | ⟨b,off,c,rfl,hc⟩
 ·subst hx
  have:news=[]:=List.eq_nil_of_length_eq_zero (by simpa using h.len)
  subst this
  cases ad with
  | none=>exact ⟨by simp [Builtin.firstCells],by simp [Builtin.lenOf]⟩
  | some ad=>exact ⟨run_firstCells_some (P:=P) w k 0 ad 0 0 [] (by simp) (fun j u hu=>by simp at hu),by simp [Builtin.lenOf]⟩
 ·refine ⟨run_firstCells_some (P:=P) w k xs.length ⟨b,off,none⟩ xs.length c news h.len (fun j u hu=>by rw [Fk]; exact hc j u hu),by simp [Builtin.lenOf]⟩
theorem Xn {k:Nat} {es xs:List (List PV)} {vs us:List Value} (h:FL M w k es vs) (hl:vs.length=es.length * k) (h':FL M w k xs us) (rest:List Value):FL M w k (es++xs) (vs++us++rest):=by
 intro i e j x hi hj
 rw [List.getElem?_append] at hi
 split at hi
 ·rename_i hlt
  obtain ⟨u,h1,h2⟩:=h i e j x hi hj
  refine ⟨u,?_,h2⟩
  have hlt2:i * k+j < vs.length:=(List.getElem?_eq_some_iff.1 h1).1
  rw [List.append_assoc,List.getElem?_append,if_pos hlt2]; exact h1
 ·rename_i hge
  obtain ⟨u,h1,h2⟩:=h' (i - es.length) e j x hi hj
  refine ⟨u,?_,h2⟩
  have e1:i * k+j - vs.length=(i - es.length) * k+j:=by
   rw [hl,Nat.sub_mul]
   have:es.length * k≤i * k:=Nat.mul_le_mul_right _ (by omega)
   omega
  have hge2:¬ i * k+j < vs.length:=by
   rw [hl]
   have:es.length * k≤i * k:=Nat.mul_le_mul_right _ (by omega)
   omega
  have hlt3:(i - es.length) * k+j < us.length:=(List.getElem?_eq_some_iff.1 h1).1
  rw [List.append_assoc,List.getElem?_append,if_neg hge2,e1,List.getElem?_append,if_pos hlt3]; exact h1
theorem N5 {z:Array Value} {zs:List Value} (hz:z.toList=zs) (h:zs.all Value.oneCell'=true) (n:Nat):(∀ (i:Nat) (u:Value),(Builtin.zeroCells z n).toList[i]?=some u→u.oneCell'=true):=by
 intro i u hu
 have hlt:i < n * z.size:=by have:=(List.getElem?_eq_some_iff.1 hu).1; simpa [Builtin.zeroCells] using this
 have hzp:0 < z.size:=by rcases Nat.eq_zero_or_pos z.size with h0 | h0; simp [h0] at hlt; exact h0
 have hm:i % z.size < z.size:=Nat.mod_lt _ hzp
 simp only [Builtin.zeroCells,Array.toList_map,List.getElem?_map,Array.toList_range,List.getElem?_range hlt,Option.map_some,Option.some.injEq] at hu
 rw [getElem!_pos z (i % z.size) hm] at hu
 have:u ∈ zs:=by rw [← hz,← hu]; simp
 exact List.all_eq_true.1 h u this
theorem Atc (z:Array Value) (n:Nat):(Builtin.zeroCells z n).toList.length=n * z.size:=by rw [Array.length_toList,size_zeroCells]
structure Aof (P:Program) (t t' e:TypeId) (i:TypeInfo) (z:Value) (k:Nat) (zs:List Value):Prop where
 ht:P.underlying t=some (.slice e)
 ht':∃ e',P.underlying t'=some (.slice e')
 hi:P.info? e=some i
 hz:i.zero=some z
 hk:i.size=k
 hzl:z.cells.toList=zs
 hzs:z.cells.size=k
 hone:zs.all Value.oneCell'=true
 hpos:0 < k
theorem Aog {t t' e e':TypeId} (ht:(Ab P t).k=.sl e) (ht':(Ab P t').k=.sl e') (hg:∀ k,(Ab P e).k=k→k≠.bad) (hsz:(Ab P e).sz=(Ab P e).zero.length) (hpos:0 < (Ab P e).sz)
  (hz:(Ab P e).zero.all Value.oneCell'=true):∃ i z,Aof P t t' e i z (Ab P e).sz (Ab P e).zero∧i.bytes=(Ab P e).bytes:=by
 obtain ⟨i,u,hi,hu⟩:=Ls hg
 obtain ⟨h1,h2,h3⟩:=Sx hi hu
 obtain ⟨z,hzz⟩:∃ z,i.zero=some z:=by
  cases hzi:i.zero with
  | some z=>exact ⟨z,rfl⟩
  | none=>rw [h3] at hsz; simp [Py,hi,hzi] at hsz; omega
 have hzl:z.cells.toList=(Ab P e).zero:=by rw [h3]; simp [Py,hi,hzz]
 refine ⟨i,z,⟨Hn ht,⟨_,Hn ht'⟩,hi,hzz,h1.symm,hzl,?_,hz,hpos⟩,h2.symm⟩
 have:=congrArg List.length hzl
 simp at this; omega
theorem Gn {t t' e:TypeId} {i:TypeInfo} {z:Value} {k:Nat} {zs:List Value} (T:Aof P t t' e i z k zs) {xs:List (List PV)} {v:Value} {news:List Value} (hE:Ga M w k xs v news)
  (base:Option Addr) (sLen sCap:Nat) (olds:Array Value) (holds:(Builtin.firstCells k sLen (.slice base sLen sCap)).run P w.drew=.ok olds w.drew) (ty:TypeId)
  (hby:(sLen+xs.length) * i.bytes≤140737488355328) (h63:sLen+xs.length≤9223372036854775807) :
  (sLen+xs.length≤sCap→(Builtin.append_ #[t,t'] ty #[.slice base sLen sCap,v]).run P w =
   ((match base with | some a=>storeCells (a.add (sLen * k)) news | none=>pure ():Sem Unit).run P w).andThen fun _ w'=>.ok (.slice base (sLen+xs.length) sCap) w') ∧
  (sCap < sLen+xs.length→(Builtin.append_ #[t,t'] ty #[.slice base sLen sCap,v]).run P w =
   .ok (.slice (some ⟨w.heap.size,0,none⟩) (sLen+xs.length) (grownCap w (sLen+xs.length) sCap e)) (w.drew.alloc (.cells (olds++news.toArray++Builtin.zeroCells z.cells (grownCap w (sLen+xs.length) sCap e - (sLen+xs.length))) e))):=by
 obtain ⟨e',hu⟩:=T.ht'
 obtain ⟨hf,hl⟩:=hE.firstCells (P:=P)
 obtain ⟨hfd,_⟩:=hE.drew.firstCells (P:=P)
 have hk:=T.hk
 constructor
 ·intro hroom
  cases base with
  | none=>simp [Builtin.append_,Bt T.ht,Bt hu,Go.sizeOf,typeInfo,T.hi,hl,hk,hroom,hf]
  | some ad=>simp [Builtin.append_,Bt T.ht,Bt hu,Go.sizeOf,typeInfo,T.hi,hl,hk,hroom,hf]
 ·intro hgrow
  have hn:¬ (sLen+xs.length≤sCap):=by omega
  have h63':¬ (9223372036854775807 < ((sLen:Int)+(xs.length:Int))):=by omega
  have h48:=growslice_fits (need:=sLen+xs.length) (old:=sCap) (bytes:=i.bytes) hgrow hby
  have h48':¬ (281474976710656 < Builtin.nextslicecap (sLen+xs.length) sCap * i.bytes):=by omega
  simp [Builtin.append_,Bt T.ht,Bt hu,Go.sizeOf,typeInfo,zeroValue,T.hi,T.hz,hl,hk,hn,h63',h48',Question.forced,holds,hfd,newRow,grownCap]
theorem Q7 (h:Av N B S θ M w st a) {t t' e e':TypeId} {s x:Operand} {c:Call} (ho:o.op=.call c) (hc:c={ callee:=.builtin .append,args:=#[s,x],argTypes:=#[t,t'] }) {dk dd:Nat} (hdst:o.dst=some dk) (hdN:dk < N) (hd4:nb≤dd) (hfree:st.o dd=none)
  (ht:(Ab P t).k=.sl e) (ht':(Ab P t').k=.sl e') (hg:∀ k,(Ab P e).k=k→k≠.bad) (hsz:(Ab P e).sz=(Ab P e).zero.length) (hpos:0 < (Ab P e).sz) (hz:(Ab P e).zero.all Value.oneCell'=true)
  (hs:ev st.t s=.p (.val (.slice none 0 0))) {xs:List (List PV)} (hx:Dd st.o (ev st.t x)=some xs) (hk:∀ (i:Nat) (e':List PV),xs[i]?=some e'→e'.length=(Ab P e).sz)
  (hby:xs.length * (Ab P e).bytes≤140737488355328) (h63:xs.length≤9223372036854775807) :
  Dr P nb N B S θ M w ((st.setO dd (.arr (Ab P e).sz xs)).put o.dst (.own dd xs.length)) o a:=by
 obtain ⟨i,z,T,hbb⟩:=Aog (t':=t') ht ht' hg hsz hpos hz
 obtain ⟨news,hE⟩:=Adp h (A0 h x) hx hk
 have hsv:=F7 (A0 h s) hs
 obtain ⟨r1,r2⟩:=Gn T hE none 0 0 #[] (by simp [Builtin.firstCells]) o.type (by rw [Nat.zero_add,hbb]; exact hby) (by omega)
 have hexec:∀ v w',(Builtin.append_ #[t,t'] o.type #[a.eval s,a.eval x]).run P w=.ok v w'→(execOp a.eval o).run P w=.ok (.value v) w':=fun v w' hr=>by
  simp [execOp,ho,hc,resolve,invoke,builtin,hr]
 rw [hsv] at hexec
 by_cases h0:xs.length=0
 ·have hxs:xs=[]:=List.eq_nil_of_length_eq_zero h0
  subst hxs
  have hr:=r1 (by simp)
  simp only [Sem.run_pure,Result.andThen_ok,List.length_nil,Nat.add_zero] at hr
  exact ⟨_,_,.inl (hexec _ _ hr),Ug h hdst hdN hd4 hfree _⟩
 ·have hr:=r2 (by omega)
  simp only [Nat.zero_add] at hr
  refine ⟨_,_,.inl (hexec _ _ hr),?_⟩
  have hge:=grownCap_ge w xs.length 0 e
  have hadv:=Li (t:=e) (w1:=w.drew) (cap:=grownCap w xs.length 0 e) (vs:=news++(Builtin.zeroCells z.cells (grownCap w xs.length 0 e - xs.length)).toList) h hdst hdN hd4 hfree (.inr rfl) hk hge
   (by rw [List.length_append,hE.len,Atc,T.hzs,← Nat.add_mul]; congr 1; omega)
   (fun i u hu=>by
    rw [List.getElem?_append] at hu
    split at hu
    ·exact hE.one i u hu
    ·exact N5 T.hzl T.hone _ _ u hu)
   (fun i e j x hi hj=>by
    obtain ⟨u,h1,h2⟩:=hE.fl i e j x hi hj
    refine ⟨u,?_,h2⟩
    rw [List.getElem?_append,if_pos (List.getElem?_eq_some_iff.1 h1).1]; exact h1)
  have he:(#[]++news.toArray++Builtin.zeroCells z.cells (grownCap w xs.length 0 e - xs.length))=(news++(Builtin.zeroCells z.cells (grownCap w xs.length 0 e - xs.length)).toList).toArray:=by
   apply Array.ext'; simp
  rw [he]
  exact hadv
theorem Ra {n len:Nat} {v:Value} (h:Ar θ M w (.own n len) v):((θ n).nil=true∧len=0∧v=.slice none 0 0)∨((θ n).nil=false∧len≤(θ n).cap∧v=.slice (some ⟨(θ n).blk,0,none⟩) len (θ n).cap):=by
 cases h with
 | own _ _ h0 h=>exact .inr ⟨h0,h,rfl⟩
 | ownNil _ h0=>exact .inl ⟨h0,rfl,rfl⟩
theorem Ry (h:Av N B S θ M w st a) {t t' e e':TypeId} {s x:Operand} {c:Call} (ho:o.op=.call c) (hc:c={ callee:=.builtin .append,args:=#[s,x],argTypes:=#[t,t'] }) {dk dd:Nat} (hdst:o.dst=some dk) (hdN:dk < N) (hd4:nb≤dd)
  (ht:(Ab P t).k=.sl e) (ht':(Ab P t').k=.sl e') (hg:∀ k,(Ab P e).k=k→k≠.bad) (hsz:(Ab P e).sz=(Ab P e).zero.length) (hpos:0 < (Ab P e).sz) (hz:(Ab P e).zero.all Value.oneCell'=true)
  {n:Nat} {es:List (List PV)} (hs:ev st.t s=.own n es.length) (hn:st.o n=some (.arr (Ab P e).sz es)) (hfree:(st.purge n).o dd=none) {xs:List (List PV)} (hx:Dd st.o (ev st.t x)=some xs)
  (hk:∀ (i:Nat) (e':List PV),xs[i]?=some e'→e'.length=(Ab P e).sz)
  (hby:(es.length+xs.length) * (Ab P e).bytes≤140737488355328) (h63:es.length+xs.length≤9223372036854775807) :
  Dr P nb N B S θ M w (((st.purge n).setO dd (.arr (Ab P e).sz (es++xs))).put o.dst (.own dd (es.length+xs.length))) o a:=by
 obtain ⟨i,z,T,hbb⟩:=Aog (t':=t') ht ht' hg hsz hpos hz
 obtain ⟨news,hE⟩:=Adp h (A0 h x) hx hk
 have hrel:=A0 h s
 rw [hs] at hrel
 have hP:=h.purge n
 have hexec:∀ v w',(Builtin.append_ #[t,t'] o.type #[a.eval s,a.eval x]).run P w=.ok v w'→(execOp a.eval o).run P w=.ok (.value v) w':=fun v w' hr=>by
  simp [execOp,ho,hc,resolve,invoke,builtin,hr]
 generalize hsv:a.eval s=sv at *
 have hkk:∀ (i:Nat) (e':List PV),(es++xs)[i]?=some e'→e'.length=(Ab P e).sz:=fun i e' hi=>by
  rw [List.getElem?_append] at hi
  split at hi
  ·exact (h.ob n _ hn).1 i e' hi
  ·exact hk _ e' hi
 have grow:∀ (olds:List Value) (sCap:Nat),olds.length=es.length * (Ab P e).sz→FL M w (Ab P e).sz es olds→(∀ (i:Nat) (u:Value),olds[i]?=some u→u.oneCell'=true)→sCap < es.length+xs.length →
   Adv nb N B S θ M w (((st.purge n).setO dd (.arr (Ab P e).sz (es++xs))).put o.dst (.own dd (es.length+xs.length))) (a.put o.dst (.slice (some ⟨w.heap.size,0,none⟩) (es.length+xs.length) (grownCap w (es.length+xs.length) sCap e)))
    (w.drew.alloc (.cells (olds.toArray++news.toArray++Builtin.zeroCells z.cells (grownCap w (es.length+xs.length) sCap e - (es.length+xs.length))) e)):=by
  intro olds sCap hol hfl hone hlt
  have hge:=grownCap_ge w (es.length+xs.length) sCap e
  have hadv:=Li (o:=o) (t:=e) (w1:=w.drew) (es:=es++xs) (cap:=grownCap w (es.length+xs.length) sCap e) (vs:=olds++news++(Builtin.zeroCells z.cells (grownCap w (es.length+xs.length) sCap e - (es.length+xs.length))).toList) hP hdst hdN hd4 hfree (.inr rfl) hkk (by simpa using hge)
   (by rw [List.length_append,List.length_append,hE.len,hol,Atc,T.hzs,← Nat.add_mul,← Nat.add_mul]; congr 1; omega)
   (fun i u hu=>by
    rw [List.getElem?_append] at hu
    split at hu
    ·rw [List.getElem?_append] at hu
     split at hu
     ·exact hone i u hu
     ·exact hE.one _ u hu
    ·exact N5 T.hzl T.hone _ _ u hu)
   (Xn hfl hol hE.fl _)
  have he:(olds.toArray++news.toArray++Builtin.zeroCells z.cells (grownCap w (es.length+xs.length) sCap e - (es.length+xs.length)))=(olds++news++(Builtin.zeroCells z.cells (grownCap w (es.length+xs.length) sCap e - (es.length+xs.length))).toList).toArray:=by
   apply Array.ext'; simp
  rw [he]
  simpa using hadv
 obtain ⟨hk0,hob⟩:=h.ob n _ hn
 rcases Ra hrel with ⟨hnil,_,hsv2⟩ | ⟨hnil,hcap,hsv2⟩
 ·subst hsv2
  rcases hob with ⟨_,hes⟩ | ⟨h0,_⟩
  ·subst hes
   obtain ⟨r1,r2⟩:=Gn T hE none 0 0 #[] (by simp [Builtin.firstCells]) o.type (by simp at hby; rw [Nat.zero_add,hbb]; exact hby) (by simp at h63; omega)
   by_cases hx0:xs.length=0
   ·have hxs:xs=[]:=List.eq_nil_of_length_eq_zero hx0
    subst hxs
    have hr:=r1 (by simp)
    simp only [Sem.run_pure,Result.andThen_ok,List.length_nil,Nat.add_zero] at hr
    have hadv:=Ug (o:=o) hP hdst hdN hd4 hfree (Ab P e).sz
    exact ⟨_,_,.inl (hexec _ _ hr),by simpa using hadv⟩
   ·have hr:=r2 (by omega)
    have hg':=grow [] 0 (by simp) (fun i e j x hi=>by simp at hi) (by simp) (by simp; omega)
    simp only [Nat.zero_add] at hr
    simp only [List.length_nil,Nat.zero_add] at hg' ⊢
    exact ⟨_,_,.inl (hexec _ _ hr),hg'⟩
  ·rw [h0] at hnil; cases hnil
 ·subst hsv2
  rcases hob with ⟨h0,_⟩ | ⟨_,hc1,cur,te,hb,hs1,ho1,hx1⟩
  ·rw [h0] at hnil; cases hnil
  ·have hle:es.length * (Ab P e).sz≤cur.size:=by rw [hs1]; exact Nat.mul_le_mul_right _ hc1
   have hol:(cur.toList.take (es.length * (Ab P e).sz)).length=es.length * (Ab P e).sz:=by simp [Nat.min_eq_left hle]
   have hone:∀ (i:Nat) (u:Value),(cur.toList.take (es.length * (Ab P e).sz))[i]?=some u→u.oneCell'=true:=fun i u hu=>by
    rw [List.getElem?_take] at hu
    split at hu
    ·have hu':cur[i]?=some u:=by simpa using hu
     have:=ho1 i (Array.getElem?_eq_some_iff.1 hu').1
     simpa [Array.getD_eq_getD_getElem?,hu'] using this
    ·cases hu
   have hfl:FL M w (Ab P e).sz es (cur.toList.take (es.length * (Ab P e).sz)):=fun i e' j x hi hj=>by
    have hjk:j < (Ab P e).sz:=by rw [← hk0 i e' hi]; exact (List.getElem?_eq_some_iff.1 hj).1
    have hil:=(List.getElem?_eq_some_iff.1 hi).1
    have hlt2:i * (Ab P e).sz+j < es.length * (Ab P e).sz:=by
     have:(i+1) * (Ab P e).sz≤es.length * (Ab P e).sz:=Nat.mul_le_mul_right _ (by omega)
     rw [Nat.add_mul] at this; omega
    refine ⟨_,?_,hx1 i e' j x hi hj⟩
    rw [List.getElem?_take,if_pos hlt2]
    have:i * (Ab P e).sz+j < cur.size:=by omega
    simp [this]
   obtain ⟨r1,r2⟩:=Gn T hE (some ⟨(θ n).blk,0,none⟩) es.length (θ n).cap (cur.toList.take (es.length * (Ab P e).sz)).toArray
    (run_firstCells_some (P:=P) w.drew _ _ _ _ _ _ hol (fun j u hu=>by
     rw [Fk,Nat.zero_add]
     rw [List.getElem?_take] at hu
     split at hu
     ·exact C2 (w:=w.drew) hb (by simpa using hu)
     ·cases hu)) o.type (by rw [hbb]; exact hby) h63
   by_cases hroom:es.length+xs.length≤(θ n).cap
   ·
    have hr:=r1 hroom
    have hfit:es.length * (Ab P e).sz+news.length≤cur.size:=by rw [hE.len,hs1,← Nat.add_mul]; exact Nat.mul_le_mul_right _ hroom
    have hst:=run_storeCells_at P (θ n).blk (es.length * (Ab P e).sz) te news 0 cur w hb (by simpa using hfit) (fun u hu=>by
     obtain ⟨i,hi⟩:=List.mem_iff_getElem?.1 hu
     exact hE.one i u hi)
    simp only [Fk,Nat.zero_add] at hr
    simp only [Nat.add_zero] at hst
    rw [hst] at hr
    simp only [Result.andThen_ok] at hr
    have hfl2:=Xn hfl hol hE.fl (cur.toList.drop (es.length * (Ab P e).sz+news.length))
    have hMn:M (θ n).blk:=(h.lv n _ hn hnil).1
    have hW:∀ b,b≠(θ n).blk→(w.setRow (θ n).blk (cur.toList.take (es.length * (Ab P e).sz)++news++cur.toList.drop (es.length * (Ab P e).sz+news.length)).toArray).heap[b]?=w.heap[b]?:=fun b hb=>Fo _ _ _ _ hb
    have hWs:(w.setRow (θ n).blk (cur.toList.take (es.length * (Ab P e).sz)++news++cur.toList.drop (es.length * (Ab P e).sz+news.length)).toArray).heap.size=w.heap.size:=by simp
    have hWb:=setRow_heap w (θ n).blk cur (cur.toList.take (es.length * (Ab P e).sz)++news++cur.toList.drop (es.length * (Ab P e).sz+news.length)).toArray te (0,0) hb
    have hWk:=Bx.of_upd h hn hnil (w':=w.setRow (θ n).blk (cur.toList.take (es.length * (Ab P e).sz)++news++cur.toList.drop (es.length * (Ab P e).sz+news.length)).toArray) hWs hW rfl rfl rfl
    generalize w.setRow (θ n).blk (cur.toList.take (es.length * (Ab P e).sz)++news++cur.toList.drop (es.length * (Ab P e).sz+news.length)).toArray=W at *
    have hlen:(cur.toList.take (es.length * (Ab P e).sz)++news++cur.toList.drop (es.length * (Ab P e).sz+news.length)).length=(θ n).cap * (Ab P e).sz:=by
     rw [← hs1]; simp; omega
    have hpw:∀ x v,Cp M w x v→Cp M W x v:=fun x v hp=>hp.mono (fun b _ hm=>hW b (fun e=>hm (e ▸ hMn))) (fun _ _ h=>h)
    have hpl:=hP.place (d:=dd) hfree (w':=W) (l:=θ n) (o:=.arr (Ab P e).sz (es++xs)) hWs hW hMn (h.lv n _ hn hnil).2 (fun m o hm hmn eb=>by
      by_cases em:m=n
      ·subst em; rw [St.purge_o_same] at hm; cases hm
      ·rw [St.purge_o_other st em,Option.map_eq_some_iff] at hm
       obtain ⟨o',ho',_⟩:=hm
       exact em (h.inj m n (by simp [ho']) (by simp [hn]) hmn hnil eb))
     (Tj hkk hnil (by simpa using hroom) hWb hlen (fun i u hu=>by
       rw [List.getElem?_append] at hu
       split at hu
       ·rw [List.getElem?_append] at hu
        split at hu
        ·exact hone i u hu
        ·exact hE.one _ u hu
       ·rw [List.getElem?_drop] at hu
        have hu':cur[es.length * (Ab P e).sz+news.length+(i - (cur.toList.take (es.length * (Ab P e).sz)++news).length)]?=some u:=by simpa using hu
        have:=ho1 _ (Array.getElem?_eq_some_iff.1 hu').1
        rw [Array.getD_eq_getD_getElem?,hu'] at this
        exact this)
      (fun i e j x hi hj=>let ⟨u,h1,h2⟩:=hfl2 i e j x hi hj; ⟨u,h1,hpw x u h2⟩)) (AO.lives_arr _ _ _)
    refine ⟨_,W,.inl (hexec _ _ hr),_,_,hpl.put (d:=o.dst) (fun k e=>by rw [hdst] at e; cases e; exact hdN) (x:=.own dd (es.length+xs.length)) ?_ ?_,hWk,fun n hn=>Bb (by omega),fun _ _ h=>h⟩
    ·have:=Ar.own (θ:=Fj θ dd (θ n)) (M:=M) (w:=W) dd (es.length+xs.length) (by simpa using hnil) (by simpa using hroom)
     simpa using this
    ·intro m hm
     simp only [AV.clean,bne_eq_false_iff_eq] at hm
     subst hm
     simp [St.setO]
   ·have hr:=r2 (by omega)
    exact ⟨_,_,.inl (hexec _ _ hr),grow _ _ hol hfl hone (by omega)⟩
end
section
variable {P:Program} {nb N B:Nat} {S:Nat→Prop} {θ:Nat→Loc} {M:Nat→Prop} {w:World} {st st':St} {a:Act} {o:Oper} {d:Nat} {e:Eff}
theorem Ago {x:AV} {v:Value} (hv:Ar θ M w x v) {n:Nat} (h:(∃ m,x=.own m n)∨(∃ m off k,x=.csl m off k n)∨(∃ y es,x=.p y∧y.list?=some es∧n=es.length)):∃ ad c,v=.slice ad n c:=by
 rcases h with ⟨m,rfl⟩ | ⟨m,off,k,rfl⟩ | ⟨y,es,rfl,hl,rfl⟩
 ·rcases Ra hv with ⟨_,rfl,rfl⟩ | ⟨_,_,rfl⟩
  ·exact ⟨_,_,rfl⟩
  ·exact ⟨_,_,rfl⟩
 ·cases hv; exact ⟨_,_,rfl⟩
 ·cases hv with
  | p _ _ hp=>
   cases hp with
   | val v h1=>
    unfold PV.list? at hl
    split at hl
    ·rename_i heq; cases heq
    ·rename_i heq; cases heq; cases hl; exact ⟨_,_,rfl⟩
    ·cases hl
   | nil=>simp only [PV.list?,Option.some.injEq] at hl; subst hl; exact ⟨_,_,rfl⟩
   | emp=>simp only [PV.list?,Option.some.injEq] at hl; subst hl; exact ⟨_,_,rfl⟩
   | sl es b off c k cv hk hc h1 h2=>simp only [PV.list?,Option.some.injEq] at hl; subst hl; exact ⟨_,_,rfl⟩
   | ro=>simp [PV.list?] at hl
theorem Rp (h:Av N B S θ M w st a) (hd:∀ k,o.dst=some k→k < N) {t e:TypeId} {x:Operand} {c:Call} (ho:o.op=.call c) (hc:c.callee=.builtin .len) (ha:c.args=#[x]) (hty:c.argTypes=#[t]) (ht:(Ab P t).k=.sl e) {n:Nat}
  (hx:(∃ m,ev st.t x=.own m n)∨(∃ m off k,ev st.t x=.csl m off k n)∨(∃ y es,ev st.t x=.p y∧y.list?=some es∧n=es.length)) :
  Dr P nb N B S θ M w (st.put o.dst (.p (.val (.int .i64 n)))) o a:=by
 obtain ⟨ad,cp,hv⟩:=Ago (A0 h x) hx
 exact Cc h hd (v:=.int .i64 n) (by simp [execOp,ho,hc,ha,hty,resolve,invoke,builtin,Builtin.len_,Bt (Hn ht),hv,goInt]) (.p _ _ (.val _ rfl)) (AV.lives_p _ _)
theorem V6 (h:Av N B S θ M w st a) (hd:∀ k,o.dst=some k→k < N) {t e n:Nat} {x:Operand} {c:Call} (ho:o.op=.call c) (hc:c.callee=.builtin .len) (ha:c.args=#[x]) (hty:c.argTypes=#[t]) (ht:(Ab P t).k=.arr n e) :
  Dr P nb N B S θ M w (st.put o.dst (.p (.val (.int .i64 n)))) o a:=
 Cc h hd (v:=.int .i64 n) (by simp [execOp,ho,hc,ha,hty,resolve,invoke,builtin,Builtin.len_,Bt (Mn ht),goInt]) (.p _ _ (.val _ rfl)) (AV.lives_p _ _)
theorem Zr (f:Int→Int→Int) (g:Value→Value→Sem Value) (hg:∀ k x y (w:World),(g (.int k x) (.int k y)).run P w=.ok (.int k (f x y)) w):∀ (k:IntKind) (l:List AV) (vs:List Value) (n m:Int) (_:vs.length=l.length)
  (_:∀ (i:Nat) (x:AV) (v:Value),l[i]?=some x→vs[i]?=some v→Ar θ M w x v),Cn.go f k n l=some m→(vs.foldlM g (.int k n)).run P w=.ok (.int k m) w
 | k,[],vs,n,m,hl,_,h=>by
  have:vs=[]:=List.eq_nil_of_length_eq_zero hl
  subst this
  simp only [Cn.go,Option.some.injEq] at h
  subst h
  simp
 | k,x :: r,vs,n,m,hl,hr,h=>by
  match vs,hl with
  | v :: us,hl=>
   have hx:=hr 0 x v (by simp) (by simp)
   unfold Cn.go at h
   split at h
   ·rename_i heq; cases heq
   ·rename_i k' m' r' heq
    cases heq
    split at h
    ·rename_i hkk
     subst hkk
     have:=F7 hx rfl
     subst this
     simp only [List.foldlM_cons,Sem.run_bind,hg,Result.andThen_ok]
     exact Zr f g hg k r us _ m (by simpa using hl) (fun i x v h1 h2=>hr (i+1) x v (by simpa using h1) (by simpa using h2)) h
    ·cases h
   ·cases h
  | [],hl=>simp at hl
theorem Qn {f:Int→Int→Int} {l:List AV} {v:Value} (h:Cn f l=some v):v.oneCell'=true:=by
 unfold Cn at h
 split at h
 ·obtain ⟨m,_,rfl⟩:=Option.map_eq_some_iff.1 h; rfl
 ·cases h
theorem Qu (h:Av N B S θ M w st a) (f:Int→Int→Int) (g:Value→Value→Sem Value) (hg:∀ k x y (w:World),(g (.int k x) (.int k y)).run P w=.ok (.int k (f x y)) w) {args:Array Operand} {v:Value}
  (hf:Cn f (args.toList.map (ev st.t))=some v):∃ x0 rest,args.toList.map a.eval=x0 :: rest∧(rest.foldlM g x0).run P w=.ok v w:=by
 cases hl:args.toList with
 | nil=>simp [hl,Cn] at hf
 | cons x r=>
  rw [hl] at hf
  simp only [List.map_cons] at hf
  unfold Cn at hf
  split at hf
  ·rename_i k n r' heq
   simp only [List.cons.injEq] at heq
   obtain ⟨hx,rfl⟩:=heq
   obtain ⟨m,hm,rfl⟩:=Option.map_eq_some_iff.1 hf
   refine ⟨a.eval x,r.map a.eval,by simp,?_⟩
   rw [F7 (A0 h x) hx]
   exact Zr (θ:=θ) (M:=M) f g hg k _ _ n m (by simp) (fun i y v h1 h2=>by
    simp only [List.getElem?_map,Option.map_eq_some_iff] at h1 h2
    obtain ⟨z,hz,rfl⟩:=h1
    obtain ⟨z',hz',rfl⟩:=h2
    rw [hz] at hz'; cases hz'
    exact A0 h z) hm
  ·cases hf
theorem Afb (h:Av N B S θ M w st a) (hd:∀ k,o.dst=some k→k < N) {c:Call} (ho:o.op=.call c) (hc:c.callee=.builtin .min) {v:Value} (hf:Cn (fun x y=>if y < x then y else x) (c.args.toList.map (ev st.t))=some v) :
  Dr P nb N B S θ M w (st.put o.dst (.p (.val v))) o a:=by
 obtain ⟨x0,rest,he,hr⟩:=Qu (P:=P) h _ Builtin.min2 (fun k x y w=>by simp [Builtin.min2]) hf
 refine Cc h hd (v:=v) ?_ (.p _ _ (.val _ (Qn hf))) (AV.lives_p _ _)
 have he':(c.args.map a.eval).toList=x0 :: rest:=by rw [Array.toList_map]; exact he
 simp [execOp,ho,hc,resolve,invoke,builtin,Builtin.min_,he,hr]
theorem Aey (h:Av N B S θ M w st a) (hd:∀ k,o.dst=some k→k < N) {c:Call} (ho:o.op=.call c) (hc:c.callee=.builtin .max) {v:Value} (hf:Cn (fun x y=>if x < y then y else x) (c.args.toList.map (ev st.t))=some v) :
  Dr P nb N B S θ M w (st.put o.dst (.p (.val v))) o a:=by
 obtain ⟨x0,rest,he,hr⟩:=Qu (P:=P) h _ Builtin.max2 (fun k x y w=>by simp [Builtin.max2]) hf
 refine Cc h hd (v:=v) ?_ (.p _ _ (.val _ (Qn hf))) (AV.lives_p _ _)
 simp [execOp,ho,hc,resolve,invoke,builtin,Builtin.max_,he,hr]
theorem Kg (h:Av N B S θ M w st a) {dflt:Nat} {x:Option Operand} {n:Int} (hb:Bv (ev st.t) dflt x=some n):(x=none∧n=dflt)∨∃ y,x=some y∧a.eval y=.int .i64 n:=by
 cases x with
 | none=>simp only [Bv,Option.some.injEq] at hb; exact .inl ⟨rfl,hb.symm⟩
 | some y=>
  simp only [Bv] at hb
  split at hb
  ·rename_i n' heq
   cases hb
   exact .inr ⟨y,rfl,F7 (A0 h y) heq⟩
  ·cases hb
theorem Pj (h:Av N B S θ M w st a) {isS:Bool} {len cap:Nat} (hle:len≤cap) {lo hi:Option Operand} {l hh:Int} (h1:Bv (ev st.t) 0 lo=some l) (h2:Bv (ev st.t) len hi=some hh) (h0:0≤l) (hlh:l≤hh) (hhl:hh≤len) :
  (Instr.sliceBounds isS len cap (lo.map a.eval) (hi.map a.eval) none).run P w=.ok (l.toNat,hh.toNat,cap) w:=by
 have c1:hh≤cap:=by omega
 have c2:0≤hh:=by omega
 have c3:l≤((hh.toNat:Nat):Int):=by omega
 rcases Kg h h2 with ⟨rfl,rfl⟩ | ⟨y,rfl,hy⟩ <;> rcases Kg h h1 with ⟨rfl,rfl⟩ | ⟨z,rfl,hz⟩
 ·simp [Instr.sliceBounds]
 ·simp [Instr.sliceBounds,hz,Instr.sliceBound,asIntOf,h0,hlh]
 ·simp [Instr.sliceBounds,hy,Instr.sliceBound,asIntOf,c1,c2]
 ·simp [Instr.sliceBounds,hy,hz,Instr.sliceBound,asIntOf,c1,c2,h0]
  intro hc; omega
theorem Ux (h:Av N B S θ M w st a) (hd:∀ k,o.dst=some k→k < N) {t e:TypeId} {x:Operand} {lo hi:Option Operand} (ho:o.op=.slice t x lo hi none) (ht:(Ab P t).k=.sl e) (hg:∀ k,(Ab P e).k=k→k≠.bad)
  {y:PV} (hx:ev st.t x=.p y) {es:List (List PV)} (hy:y.list?=some es) {l hh:Int} (h1:Bv (ev st.t) 0 lo=some l) (h2:Bv (ev st.t) es.length hi=some hh) (h0:0≤l) (hlh:l≤hh) (hhl:hh≤es.length)
  (hk:∀ (i:Nat) (c:List PV),es[i]?=some c→c.length=(Ab P e).sz) :
  Dr P nb N B S θ M w (st.put o.dst (.p (.sl ((es.take hh.toNat).drop l.toNat)))) o a:=by
 have hrel:=A0 h x
 rw [hx] at hrel
 have hsub:∀ v,Cp M w (.sl ((es.take hh.toNat).drop l.toNat)) v→∀ ad n c,v=.slice ad n c→(Instr.sliceAt t (a.eval x) (lo.map a.eval) (hi.map a.eval) none).run P w=.ok v w→Dr P nb N B S θ M w (st.put o.dst (.p (.sl ((es.take hh.toNat).drop l.toNat)))) o a:=
  fun v hp ad n c _ hr=>Cc h hd (v:=v) (by simp [execOp,ho,hr]) (.p _ _ hp) (AV.lives_p _ _)
 generalize hv:a.eval x=v at *
 cases hrel with
 | p _ _ hp=>
  have hu:=Hn ht
  have hS:=Cd (P:=P) (w:=w) hg
  have nilcase:∀ ad,v=.slice ad 0 0→Cp M w (.sl []) (.slice ad 0 0)→es=[]→Dr P nb N B S θ M w (st.put o.dst (.p (.sl ((es.take hh.toNat).drop l.toNat)))) o a:=by
   intro ad e1 e3 e2
   subst e1; subst e2
   have hb:=Pj (P:=P) h (isS:=true) (len:=0) (cap:=0) (Nat.le_refl _) h1 h2 h0 hlh hhl
   have hl0:l.toNat=0:=by simp at hhl; omega
   have hh0:hh.toNat=0:=by simp at hhl; omega
   refine hsub (.slice ad 0 0) (by simpa using e3) ad 0 0 rfl ?_
   cases ad <;> simp [Instr.sliceAt,Bt hu,Instr.slice,hb,hl0,hh0,hS]
  cases hp with
  | val v h1'=>
   unfold PV.list? at hy
   split at hy
   ·rename_i heq; cases heq
   ·rename_i heq; cases heq; exact nilcase _ rfl .nil (Option.some.inj hy).symm
   ·cases hy
  | nil=>exact nilcase _ rfl .nil (by simpa [PV.list?] using hy.symm)
  | emp ad=>exact nilcase _ rfl (.emp ad) (by simpa [PV.list?] using hy.symm)
  | ro=>simp [PV.list?] at hy
  | sl es' b off c k cv hk' hc c1 c2=>
   simp only [PV.list?,Option.some.injEq] at hy
   subst hy
   have hb:=Pj (P:=P) h (isS:=true) (len:=es'.length) (cap:=c) hc h1 h2 h0 hlh hhl
   have hlen:((es'.take hh.toNat).drop l.toNat).length=hh.toNat - l.toNat:=by simp; omega
   have hget:∀ (i:Nat) (e:List PV),((es'.take hh.toNat).drop l.toNat)[i]?=some e→es'[l.toNat+i]?=some e:=fun i e hi=>by
    rw [List.getElem?_drop,List.getElem?_take] at hi
    split at hi
    ·exact hi
    ·cases hi
   by_cases hcl:c=l.toNat
   ·have hempty:(es'.take hh.toNat).drop l.toNat=[]:=List.eq_nil_of_length_eq_zero (by omega)
    have hz:hh.toNat - l.toNat=0:=by omega
    refine hsub (.slice (some ⟨b,off,none⟩) (hh.toNat - l.toNat) (c - l.toNat)) ?_ _ _ _ rfl ?_
    ·rw [hempty,hz]
     exact .sl [] b off _ k cv (by simp) (by simp) (by simp) (by simp)
    ·subst hcl
     simp [Instr.sliceAt,Bt hu,Instr.slice,hb,hS]
   ·refine hsub (.slice (some ⟨b,off+l.toNat * (Ab P e).sz,none⟩) (hh.toNat - l.toNat) (c - l.toNat)) ?_ _ _ _ rfl ?_
    ·have hp:Cp M w (.sl ((es'.take hh.toNat).drop l.toNat)) (.slice (some ⟨b,off+l.toNat * (Ab P e).sz,none⟩) ((es'.take hh.toNat).drop l.toNat).length (c - l.toNat)):=
      .sl _ b _ _ (Ab P e).sz (fun i j=>cv (l.toNat+i) j) (fun i e2 hi=>hk _ e2 (hget i e2 hi)) (by omega) (fun i e2 j x hi hj=>by
       have hi':=hget i e2 hi
       have hkk:k=(Ab P e).sz:=by rw [← hk _ e2 hi']; exact (hk' _ e2 hi').symm
       have:=c1 _ e2 j x hi' hj
       rw [hkk,Nat.add_mul] at this
       rw [show off+l.toNat * (Ab P e).sz+(i * (Ab P e).sz+j)=off+(l.toNat * (Ab P e).sz+i * (Ab P e).sz+j) by omega]
       exact this) (fun i e2 j x hi hj=>c2 _ e2 j x (hget i e2 hi) hj)
     rwa [hlen] at hp
    ·simp [Instr.sliceAt,Bt hu,Instr.slice,hb,hcl,hS,Fk]
theorem Sa (h:Av N B S θ M w st a) {isS:Bool} {len cap:Nat} {lo:Option Operand} {hi mx:Operand} {l hh mm:Int} (h1:Bv (ev st.t) 0 lo=some l) (h2:Bv (ev st.t) 0 (some hi)=some hh) (h3:Bv (ev st.t) 0 (some mx)=some mm) (h0:0≤l) (hlh:l≤hh) (hhm:hh≤mm) (hmc:mm≤cap) :
  (Instr.sliceBounds isS len cap (lo.map a.eval) (some (a.eval hi)) (some (a.eval mx))).run P w=.ok (l.toNat,hh.toNat,mm.toNat) w:=by
 have c2:0≤hh:=by omega
 have c4:0≤mm:=by omega
 have c3:l≤((hh.toNat:Nat):Int):=by omega
 have c5:hh≤((mm.toNat:Nat):Int):=by omega
 rcases Kg h h2 with ⟨h,_⟩ | ⟨y,e,hy⟩
 ·cases h
 cases e
 rcases Kg h h3 with ⟨h,_⟩ | ⟨y,e,hz⟩
 ·cases h
 cases e
 rcases Kg h h1 with ⟨rfl,rfl⟩ | ⟨z,rfl,hl⟩
 ·simp [Instr.sliceBounds,hy,hz,Instr.sliceBound,asIntOf,c2,c4,hmc]
  intro hc; omega
 ·simp [Instr.sliceBounds,hy,hz,hl,Instr.sliceBound,asIntOf,c2,c4,hmc,h0]
  rw [if_pos (by omega),if_pos (by omega)]
theorem Ss (h:Av N B S θ M w st a) (hd:∀ k,o.dst=some k→k < N) {t e:TypeId} {x:Operand} {lo:Option Operand} {hi mx:Operand} (ho:o.op=.slice t x lo (some hi) (some mx)) (ht:(Ab P t).k=.sl e) (hg:∀ k,(Ab P e).k=k→k≠.bad)
  {y:PV} (hx:ev st.t x=.p y) {es:List (List PV)} (hy:y.list?=some es) {l hh:Int} (h1:Bv (ev st.t) 0 lo=some l) {mm:Int} (h2:Bv (ev st.t) 0 (some hi)=some hh) (h3:Bv (ev st.t) 0 (some mx)=some mm) (h0:0≤l) (hlh:l≤hh) (hhm:hh≤mm) (hml:mm≤es.length)
  (hk:∀ (i:Nat) (c:List PV),es[i]?=some c→c.length=(Ab P e).sz) :
  Dr P nb N B S θ M w (st.put o.dst (.p (.sl ((es.take hh.toNat).drop l.toNat)))) o a:=by
 have hrel:=A0 h x
 rw [hx] at hrel
 have hsub:∀ v,Cp M w (.sl ((es.take hh.toNat).drop l.toNat)) v→∀ ad n c,v=.slice ad n c→(Instr.sliceAt t (a.eval x) (lo.map a.eval) (some (a.eval hi)) (some (a.eval mx))).run P w=.ok v w→Dr P nb N B S θ M w (st.put o.dst (.p (.sl ((es.take hh.toNat).drop l.toNat)))) o a:=
  fun v hp ad n c _ hr=>Cc h hd (v:=v) (by simp [execOp,ho,hr]) (.p _ _ hp) (AV.lives_p _ _)
 generalize hv:a.eval x=v at *
 cases hrel with
 | p _ _ hp=>
  have hu:=Hn ht
  have hS:=Cd (P:=P) (w:=w) hg
  have nilcase:∀ ad,v=.slice ad 0 0→Cp M w (.sl []) (.slice ad 0 0)→es=[]→Dr P nb N B S θ M w (st.put o.dst (.p (.sl ((es.take hh.toNat).drop l.toNat)))) o a:=by
   intro ad e1 e3 e2
   subst e1; subst e2
   have hhl:hh≤((([]:List (List PV)).length:Nat):Int):=by omega
   have hb:=Sa (P:=P) (w:=w) h (isS:=true) (len:=0) (cap:=0) h1 h2 h3 h0 hlh hhm (by simpa using hml)
   have hl0:l.toNat=0:=by simp at hhl; omega
   have hh0:hh.toNat=0:=by simp at hhl; omega
   refine hsub (.slice ad 0 0) (by simpa using e3) ad 0 0 rfl ?_
   have hm0:mm.toNat=0:=by simp at hml; omega
   cases ad <;> simp [Instr.sliceAt,Bt hu,Instr.slice,hb,hl0,hh0,hm0,hS]
  cases hp with
  | val v h1'=>
   unfold PV.list? at hy
   split at hy
   ·rename_i heq; cases heq
   ·rename_i heq; cases heq; exact nilcase _ rfl .nil (Option.some.inj hy).symm
   ·cases hy
  | nil=>exact nilcase _ rfl .nil (by simpa [PV.list?] using hy.symm)
  | emp ad=>exact nilcase _ rfl (.emp ad) (by simpa [PV.list?] using hy.symm)
  | ro=>simp [PV.list?] at hy
  | sl es' b off c k cv hk' hc c1 c2=>
   simp only [PV.list?,Option.some.injEq] at hy
   subst hy
   have hhl:hh≤es'.length:=by omega
   have hb:=Sa (P:=P) (w:=w) h (isS:=true) (len:=es'.length) (cap:=c) h1 h2 h3 h0 hlh hhm (by omega)
   have hlen:((es'.take hh.toNat).drop l.toNat).length=hh.toNat - l.toNat:=by simp; omega
   have hget:∀ (i:Nat) (e:List PV),((es'.take hh.toNat).drop l.toNat)[i]?=some e→es'[l.toNat+i]?=some e:=fun i e hi=>by
    rw [List.getElem?_drop,List.getElem?_take] at hi
    split at hi
    ·exact hi
    ·cases hi
   by_cases hcl:mm.toNat=l.toNat
   ·have hempty:(es'.take hh.toNat).drop l.toNat=[]:=List.eq_nil_of_length_eq_zero (by omega)
    have hz:hh.toNat - l.toNat=0:=by omega
    refine hsub (.slice (some ⟨b,off,none⟩) (hh.toNat - l.toNat) (mm.toNat - l.toNat)) ?_ _ _ _ rfl ?_
    ·rw [hempty,hz]
     exact .sl [] b off _ k cv (by simp) (by simp) (by simp) (by simp)
    ·simp [Instr.sliceAt,Bt hu,Instr.slice,hb,hcl,hS]
   ·refine hsub (.slice (some ⟨b,off+l.toNat * (Ab P e).sz,none⟩) (hh.toNat - l.toNat) (mm.toNat - l.toNat)) ?_ _ _ _ rfl ?_
    ·have hp:Cp M w (.sl ((es'.take hh.toNat).drop l.toNat)) (.slice (some ⟨b,off+l.toNat * (Ab P e).sz,none⟩) ((es'.take hh.toNat).drop l.toNat).length (mm.toNat - l.toNat)):=
      .sl _ b _ _ (Ab P e).sz (fun i j=>cv (l.toNat+i) j) (fun i e2 hi=>hk _ e2 (hget i e2 hi)) (by omega) (fun i e2 j x hi hj=>by
       have hi':=hget i e2 hi
       have hkk:k=(Ab P e).sz:=by rw [← hk _ e2 hi']; exact (hk' _ e2 hi').symm
       have:=c1 _ e2 j x hi' hj
       rw [hkk,Nat.add_mul] at this
       rw [show off+l.toNat * (Ab P e).sz+(i * (Ab P e).sz+j)=off+(l.toNat * (Ab P e).sz+i * (Ab P e).sz+j) by omega]
       exact this) (fun i e2 j x hi hj=>c2 _ e2 j x (hget i e2 hi) hj)
     rwa [hlen] at hp
    ·simp [Instr.sliceAt,Bt hu,Instr.slice,hb,hcl,hS,Fk]
theorem Sq (h:Av N B S θ M w st a) (hd:∀ k,o.dst=some k→k < N) {t e:TypeId} {len:Nat} {x:Operand} {lo hi:Option Operand} (ho:o.op=.slice t x lo hi none) (ht:(Ab P t).k=.arr len e) (hg:∀ k,(Ab P e).k=k→k≠.bad)
  {n off:Nat} (hx:ev st.t x=.ptr n off) {l hh:Int} (h1:Bv (ev st.t) 0 lo=some l) (h2:Bv (ev st.t) len hi=some hh) (h0:0≤l) (hlh:l≤hh) (hhl:hh≤len) (hll:l < len) :
  Dr P nb N B S θ M w (st.put o.dst (.csl n (off+l.toNat * (Ab P e).sz) (Ab P e).sz (hh - l).toNat)) o a:=by
 have hv:=Jt (A0 h x) hx
 have hlv:=Cr h x
 rw [hx] at hlv
 have hu:=Mn ht
 have hS:=Cd (P:=P) (w:=w) hg
 have hb:=Pj (P:=P) h (isS:=false) (len:=len) (cap:=len) (Nat.le_refl _) h1 h2 h0 hlh hhl
 have hne:¬ len=l.toNat:=by omega
 have e1:hh.toNat - l.toNat=(hh - l).toNat:=by omega
 refine Cc h hd (v:=.slice (some ⟨(θ n).blk,off+l.toNat * (Ab P e).sz,none⟩) (hh - l).toNat (len - l.toNat)) ?_ (.csl n _ _ _ _ (by omega)) (fun j hj=>hlv j (by simpa [AV.clean] using hj))
 simp [execOp,ho,hv,Instr.sliceAt,Bt hu,Instr.sureAddr,hb,hne,hS,Fk,e1]
end
section
variable {P:Program} {nb N B:Nat} {S:Nat→Prop} {θ:Nat→Loc} {M:Nat→Prop} {w:World} {st st':St} {a:Act} {o:Oper} {d:Nat} {e:Eff}
theorem Rf (h:Av N B S θ M w st a) {t:TypeId} {x y:Operand} (ho:o.op=.store t x y) (hdst:∀ k,o.dst=some k→k < N) {vs:List AV} (hv:(ev st.t y).cs?=some vs)
  (hg:∀ k,(Ab P t).k=k→k≠.bad) (hsz:vs.length=(Ab P t).sz) {n k i off:Nat} (hx:ev st.t x=.eptr n k i off) {es:List (List PV)} (hn:st.o n=some (.arr k es)) {ps:List PV} (hp:Lv vs=some ps) (hi:i < es.length) (hfit:off+ps.length≤k) :
  Dr P nb N B S θ M w ((st.setO n (.arr k (es.set i (Bd (es.getD i []) off ps)))).put o.dst .undef) o a:=by
 have hvp:=Nk hp
 have hvl:vs.length=ps.length:=by rw [hvp]; simp
 have hrv:=La (A0 h y) hv
 have hsv:(a.eval y).cells.size=vs.length:=by simpa using hrv.1
 obtain ⟨hk0,hob⟩:=h.ob n _ hn
 rcases hob with ⟨_,h0⟩ | ⟨hnil,hc1,cur,te,hb,hs1,ho1,hx1⟩
 ·subst h0; simp at hi
 have hei:es[i]?=some (es.getD i []):=by simp [List.getD,hi]
 have hlen:=hk0 i _ hei
 have hik:i * k+k≤cur.size:=by
  rw [hs1]
  have:(i+1) * k≤(θ n).cap * k:=Nat.mul_le_mul_right _ (by omega)
  rw [Nat.add_mul] at this; omega
 have hone:∀ u ∈ (a.eval y).cells.toList,u.oneCell'=true:=fun u hu=>by
  obtain ⟨j,hj⟩:=List.mem_iff_getElem?.1 hu
  have hlt:j < vs.length:=by have:=(List.getElem?_eq_some_iff.1 hj).1; simp at this; omega
  obtain ⟨v,h1,h2,_⟩:=hrv.2 j vs[j] (List.getElem?_eq_getElem hlt)
  rw [hj] at h1; cases h1; exact h2
 have hrun:=Qz (P:=P) (w:=w) hg (v:=a.eval y) (by rw [hsv,hsz]) hb (off:=i * k+off) (by rw [hsv]; omega) hone
 have hpx:=Qa (A0 h x) hx
 have hMn:M (θ n).blk:=(h.lv n _ hn hnil).1
 have hW:∀ b,b≠(θ n).blk→(w.setRow (θ n).blk (cur.toList.take (i * k+off)++(a.eval y).cells.toList++cur.toList.drop (i * k+off+(a.eval y).cells.size)).toArray).heap[b]?=w.heap[b]?:=fun b hb=>Fo _ _ _ _ hb
 have hWs:(w.setRow (θ n).blk (cur.toList.take (i * k+off)++(a.eval y).cells.toList++cur.toList.drop (i * k+off+(a.eval y).cells.size)).toArray).heap.size=w.heap.size:=by simp
 have hWb:=setRow_heap w (θ n).blk cur (cur.toList.take (i * k+off)++(a.eval y).cells.toList++cur.toList.drop (i * k+off+(a.eval y).cells.size)).toArray te (0,0) hb
 have hWk:=Bx.of_upd h hn hnil (w':=w.setRow (θ n).blk (cur.toList.take (i * k+off)++(a.eval y).cells.toList++cur.toList.drop (i * k+off+(a.eval y).cells.size)).toArray) hWs hW rfl rfl rfl
 have hL:(cur.toList.take (i * k+off)++(a.eval y).cells.toList++cur.toList.drop (i * k+off+(a.eval y).cells.size))=Bd cur.toList (i * k+off) (a.eval y).cells.toList:=by
  rw [D5 _ _ _ (by simp [hsv]; omega)]; simp
 have hLget:∀ j,(cur.toList.take (i * k+off)++(a.eval y).cells.toList++cur.toList.drop (i * k+off+(a.eval y).cells.size))[j]? =
   if i * k+off≤j∧j < i * k+off+vs.length then (a.eval y).cells.toList[j - (i * k+off)]? else cur.toList[j]?:=by
  intro j
  have hmin:(cur.toList.take (i * k+off)).length=i * k+off:=by simp; omega
  rw [List.getElem?_append,List.getElem?_append,List.length_append,hmin]
  simp only [Array.length_toList,hsv]
  by_cases h1:j < i * k+off
  ·have h2:j < i * k+off+vs.length:=by omega
   rw [if_pos h2,if_pos h1,if_neg (by omega),List.getElem?_take,if_pos h1]
  ·by_cases h2:j < i * k+off+vs.length
   ·rw [if_pos h2,if_neg h1,if_pos ⟨by omega,h2⟩]
   ·rw [if_neg h2,if_neg (by omega),List.getElem?_drop]; congr 1; omega
 have hLl:(cur.toList.take (i * k+off)++(a.eval y).cells.toList++cur.toList.drop (i * k+off+(a.eval y).cells.size)).length=(θ n).cap * k:=by
  rw [← hs1]; simp [hsv]; omega
 generalize hLL:(cur.toList.take (i * k+off)++(a.eval y).cells.toList++cur.toList.drop (i * k+off+(a.eval y).cells.size))=L at *
 generalize w.setRow (θ n).blk L.toArray=W at *
 have hpw:∀ x v,Cp M w x v→Cp M W x v:=fun x v hp=>hp.mono (fun b _ hm=>hW b (fun e=>hm (e ▸ hMn))) (fun _ _ h=>h)
 have hput:(Bd (es.getD i []) off ps).length=k:=by rw [D5 _ _ _ (by rw [hlen]; exact hfit),List.length_append,List.length_append,List.length_take,List.length_drop,hlen]; omega
 have hkk:∀ (j:Nat) (e:List PV),(es.set i (Bd (es.getD i []) off ps))[j]?=some e→e.length=k:=fun j e hj=>by
  by_cases hij:i=j
  ·subst hij
   rw [List.getElem?_set_self hi] at hj
   cases hj; exact hput
  ·rw [List.getElem?_set_ne hij] at hj
   exact hk0 j e hj
 have hS:=h.upd hn hnil (o':=.arr k (es.set i (Bd (es.getD i []) off ps))) (w':=W) hWs hW
  (Tj hkk hnil (by simpa using hc1) hWb hLl (fun j u hu=>by
    rw [hLget] at hu
    split at hu
    ·exact hone u (List.mem_of_getElem? hu)
    ·have hu':cur[j]?=some u:=by simpa using hu
     have:=ho1 _ (Array.getElem?_eq_some_iff.1 hu').1
     rw [Array.getD_eq_getD_getElem?,hu'] at this
     exact this)
   (fun i' e j x hi' hj=>by
    have hjk:j < k:=by rw [← hkk i' e hi']; exact (List.getElem?_eq_some_iff.1 hj).1
    by_cases hii:i=i'
    ·subst hii
     rw [List.getElem?_set_self hi] at hi'
     have hi':=Option.some.inj hi'
     subst hi'
     rw [D5 _ _ _ (by rw [hlen]; exact hfit)] at hj
     by_cases hin:off≤j∧j < off+ps.length
     ·have hj':ps[j - off]?=some x:=by
       have hm:((es.getD i []).take off).length=off:=by simp only [List.length_take]; omega
       rw [List.getElem?_append,List.length_append,hm,if_pos (by omega),List.getElem?_append,hm,if_neg (by omega)] at hj
       exact hj
      obtain ⟨u,h1,_,h3⟩:=hrv.2 (j - off) (.p x) (by rw [hvp]; simp [hj'])
      cases h3 with
      | p _ _ hpx=>
       refine ⟨u,?_,hpw _ _ hpx⟩
       rw [hLget,if_pos ⟨by omega,by omega⟩,show i * k+j - (i * k+off)=j - off by omega]
       exact h1
     ·have hj':(es.getD i [])[j]?=some x:=by
       have hm:((es.getD i []).take off).length=off:=by simp only [List.length_take]; omega
       rw [List.getElem?_append,List.length_append,hm,List.getElem?_append,hm] at hj
       by_cases h1:j < off
       ·rw [if_pos (by omega),if_pos h1,List.getElem?_take,if_pos h1] at hj; exact hj
       ·rw [if_neg (by omega),List.getElem?_drop] at hj
        rw [← hj]; congr 1; omega
      have hr:=hx1 i _ j x hei hj'
      refine ⟨_,?_,hpw _ _ hr⟩
      rw [hLget,if_neg (by omega)]
      have:i * k+j < cur.size:=by omega
      simp [this]
    ·rw [List.getElem?_set_ne hii] at hi'
     have hr:=hx1 i' e j x hi' hj
     refine ⟨_,?_,hpw _ _ hr⟩
     have hout:¬ (i * k+off≤i' * k+j∧i' * k+j < i * k+off+vs.length):=by
      rintro ⟨h1,h2⟩
      rcases Nat.lt_or_gt_of_ne hii with h3 | h3
      ·have:(i+1) * k≤i' * k:=Nat.mul_le_mul_right _ (by omega)
       rw [Nat.add_mul] at this; omega
      ·have:(i'+1) * k≤i * k:=Nat.mul_le_mul_right _ (by omega)
       rw [Nat.add_mul] at this; omega
     rw [hLget,if_neg hout]
     have hil:=(List.getElem?_eq_some_iff.1 hi').1
     have:i' * k+j < cur.size:=by
      rw [hs1]
      have:(i'+1) * k≤(θ n).cap * k:=Nat.mul_le_mul_right _ (by omega)
      rw [Nat.add_mul] at this; omega
     simp [this])) (AO.lives_arr _ _ _)
 exact ⟨undef,W,.inr ⟨by simp [execOp,ho,hpx,Instr.storeAt,Instr.sureAddr,hrun],rfl⟩,Adv.trans hWk (fun _ _=>rfl) (fun _ _ h=>h) (Adv.put hS hdst (.undef _) (AV.lives_undef _))⟩
end
section
variable {P:Program} {nb N B:Nat} {S:Nat→Prop} {θ:Nat→Loc} {M:Nat→Prop} {w:World} {st st':St} {a:Act} {o:Oper} {d:Nat} {e:Eff}
theorem Db {t:TypeId} (h:(Ab P t).agg.isSome=true):∀ k,(Ab P t).k=k→k≠.bad:=by
 obtain ⟨g,hg⟩:=Option.isSome_iff_exists.1 h
 exact M4 hg
theorem Aw {x:AV} (h:(Eff.pure x).apply nb o.dst st=some st'):st'=st.put o.dst x:=by
 simp only [Eff.apply,Option.some.injEq] at h; exact h.symm
theorem Kw {b:AO} {x:AV} (hdd:∀ k,o.dst=some k→d=nb+k) (h:(Eff.new b x).apply nb o.dst st=some st'):∃ dk,o.dst=some dk∧st.o d=none∧nb≤d∧st'=(st.setO d b).put o.dst x:=by
 simp only [Eff.apply] at h
 split at h
 ·rename_i k hk
  have:=hdd k hk
  subst this
  split at h
  ·rename_i hc
   simp only [Option.isNone_iff_eq_none] at hc
   exact ⟨k,hk,hc,by omega,(Option.some.inj h).symm⟩
  ·cases h
 ·cases h
theorem Ae2 {n:Nat} {b:AO} {x:AV} (hdd:∀ k,o.dst=some k→d=nb+k) (h:(Eff.app n b x).apply nb o.dst st=some st'):∃ dk,o.dst=some dk∧(st.purge n).o d=none∧nb≤d∧st'=((st.purge n).setO d b).put o.dst x:=by
 simp only [Eff.apply] at h
 split at h
 ·rename_i k hk
  have:=hdd k hk
  subst this
  split at h
  ·rename_i hc
   simp only [Option.isNone_iff_eq_none] at hc
   exact ⟨k,hk,hc,by omega,(Option.some.inj h).symm⟩
  ·cases h
 ·cases h
theorem Wh {n:Nat} {b:AO} (h:(Eff.upd n b).apply nb o.dst st=some st'):st'=(st.setO n b).put o.dst .undef:=by
 simp only [Eff.apply,Option.some.injEq] at h; exact h.symm
theorem S9 {es:List (List PV)} {k:Nat} (h:(es.all fun c=>decide (c.length=k))=true):∀ (i:Nat) (c:List PV),es[i]?=some c→c.length=k:=fun i c hi=>by
 have:=List.all_eq_true.1 h c (List.mem_of_getElem? hi)
 simpa using this
theorem Sc:∀ {cs:List AV} {l:List Int},Ck cs=some l→cs=l.map fun n=>.p (.val (.int .i64 n))
 | [],l,h=>by cases h; rfl
 | .p (.val (.int .i64 n)) :: r,l,h=>by
  simp only [Ck] at h
  obtain ⟨l',h1,rfl⟩:=Option.map_eq_some_iff.1 h
  rw [Sc h1]; rfl
theorem Gl {x:AV} {v:Value} {cs:List AV} {l:List Int} (h:Ar θ M w x v) (hx:x=.agg cs) (hl:Ck cs=some l):v=.agg (l.map (Value.int .i64)).toArray:=by
 subst hx
 have:=Sc hl
 subst this
 cases h with
 | agg _ vs hs _ hr=>
  congr 1
  apply Array.ext'
  apply List.ext_getElem?
  intro i
  cases hi:l[i]? with
  | none=>
   have h1:l.length≤i:=by simpa using hi
   simp [hi]
   rw [hs]; simpa using h1
  | some n=>
   have h2:=hr i (.p (.val (.int .i64 n))) (by simp [hi])
   have h3:=Nv h2 rfl
   have hlt:i < vs.size:=by rw [hs]; simpa using (List.getElem?_eq_some_iff.1 hi).1
   rw [Array.getD_eq_getD_getElem?] at h3
   simp only [Array.getElem?_eq_getElem hlt,Option.getD_some] at h3
   simp [hi,hlt,h3]
set_option maxHeartbeats 1000000 in
theorem Ae7 (h:Av N B S θ M w st a) (hd:∀ k,o.dst=some k→k < N) (hdd:∀ k,o.dst=some k→d=nb+k) (he:eff P d o.op (ev st.t) st.o=some e) (hap:e.apply nb o.dst st=some st'):Dr P nb N B S θ M w st' o a:=by
 generalize ho:o.op=op at he
 cases op with
 | move x=>simp only [eff,Option.some.injEq] at he; subst he; rw [Aw hap]; exact Tp h hd (.inl ho)
 | assign x=>simp only [eff,Option.some.injEq] at he; subst he; rw [Aw hap]; exact Tp h hd (.inr ho)
 | pick c x y=>
  simp only [eff] at he
  split at he
  ·rename_i b hc; cases he; rw [Aw hap]; exact Ac9 h hd ho hc
  ·cases he
 | alloc t=>
  simp only [eff] at he
  split at he
  ·rename_i hc; cases he
   obtain ⟨dk,h1,h2,h3,rfl⟩:=Kw hdd hap
   exact Aaj h ho h1 (hd _ h1) h3 h2 hc.1 hc.2.1 hc.2.2.1 (Db hc.2.2.2)
  ·cases he
 | box t x=>
  simp only [eff] at he
  obtain ⟨cs,hc,rfl⟩:=Option.map_eq_some_iff.1 he
  obtain ⟨dk,h1,h2,h3,rfl⟩:=Kw hdd hap
  exact Ae9 h ho h1 (hd _ h1) h3 h2 hc
 | load t x=>
  simp only [eff] at he
  split at he
  ·cases he
  ·rename_i g hg
   split at he
   ·rename_i n off hx
    split at he
    ·rename_i cs hn
     obtain ⟨y,hy,rfl⟩:=Option.map_eq_some_iff.1 he
     rw [Aw hap]
     have:=(Mt h hn).drop off
     rw [Nat.zero_add] at this
     exact P1 h hd ho hg (Jt (A0 h x) hx) this (fun i z hz=>by rw [List.getElem?_drop] at hz; exact AO.lives_cells.1 (h.cl.2 n _ hn) _ z hz) hy
    ·cases he
   ·rename_i n k i off hx
    split at he
    ·rename_i k' es hn
     split at he
     ·rename_i hc
      obtain ⟨rfl,hi⟩:=hc
      obtain ⟨y,hy,rfl⟩:=Option.map_eq_some_iff.1 he
      rw [Aw hap]
      have:=(Aad h hn hi).drop off
      rw [← List.map_drop] at this
      exact P1 h hd ho hg (Qa (A0 h x) hx) this (fun i z hz=>by
       simp only [List.getElem?_map,Option.map_eq_some_iff] at hz
       obtain ⟨q,_,rfl⟩:=hz
       exact AV.lives_p _ _) hy
     ·cases he
    ·cases he
   ·rename_i cs hx
    obtain ⟨y,hy,rfl⟩:=Option.map_eq_some_iff.1 he
    rw [Aw hap]
    obtain ⟨b,off,hv,hro⟩:=Yb (A0 h x) hx
    exact P1 h hd ho hg hv (Ac6 hro) (fun i z hz=>by
     simp only [List.getElem?_map,Option.map_eq_some_iff] at hz
     obtain ⟨q,_,rfl⟩:=hz
     exact AV.lives_p _ _) hy
   ·cases he
 | store t x v=>
  simp only [eff] at he
  split at he
  ·rename_i vs g hv hg
   split at he
   ·rename_i hsz
    split at he
    ·rename_i n off hx
     split at he
     ·rename_i cs hn
      split at he
      ·rename_i hfit; cases he; rw [Wh hap]; exact Z4 h ho hd hv (M4 hg) hsz hx hn hfit
      ·cases he
     ·cases he
    ·rename_i n k i off hx
     split at he
     ·rename_i k' es ps hn hp
      split at he
      ·rename_i hc
       obtain ⟨rfl,hi,hfit⟩:=hc
       cases he; rw [Wh hap]; exact Rf h ho hd hv (M4 hg) hsz hx hn hp hi hfit
      ·cases he
     ·cases he
    ·cases he
   ·cases he
  ·cases he
 | fieldAddr t x f=>
  simp only [eff] at he
  split at he
  ·rename_i fs hk
   split at he
   ·rename_i off ft hf
    split at he
    ·cases he
    ·rename_i hz
     have hlv:=Cr h x
     split at he
     ·rename_i n p hx; cases he; rw [Aw hap]
      rw [hx] at hlv
      exact Hb h hd ho hk hf hz (Jt (A0 h x) hx) (.ptr n _) (fun j hj=>hlv j (by simpa [AV.clean] using hj))
     ·rename_i n k i p hx; cases he; rw [Aw hap]
      rw [hx] at hlv
      have:=Ar.eptr (θ:=θ) (M:=M) (w:=w) n k i (p+off)
      rw [← Nat.add_assoc] at this
      exact Hb h hd ho hk hf hz (Qa (A0 h x) hx) this (fun j hj=>hlv j (by simpa [AV.clean] using hj))
     ·rename_i cs hx; cases he; rw [Aw hap]
      obtain ⟨b,p,hv,hro⟩:=Yb (A0 h x) hx
      exact Hb h hd ho hk hf hz hv (.p _ _ (Xc hro off)) (AV.lives_p _ _)
     ·cases he
   ·cases he
  ·cases he
 | field t x f=>
  simp only [eff] at he
  split at he
  ·rename_i fs cs hk hx
   split at he
   ·rename_i off ft hf
    split at he
    ·rename_i g hg
     split at he
     ·rename_i hle
      obtain ⟨y,hy,rfl⟩:=Option.map_eq_some_iff.1 he
      rw [Aw hap]; exact Aaz h hd ho hk hf hg hx hle hy
     ·cases he
    ·cases he
   ·cases he
  ·cases he
 | indexAddr t x i=>
  simp only [eff] at he
  split at he
  ·rename_i e' k n hk hi
   split at he
   ·rename_i es hx
    split at he
    ·rename_i hc; cases he; rw [Aw hap]; exact Tk h hd ho hk (Db hc.2.2.2) hi hx hc.1 hc.2.1 hc.2.2.1
    ·cases he
   ·rename_i m len hx
    split at he
    ·rename_i k' es hm
     split at he
     ·rename_i hc; cases he; rw [Aw hap]; exact Sw h hd ho hk (Db hc.2.2.2.2) hi hx hm hc.1 hc.2.1 hc.2.2.2.1
     ·cases he
    ·cases he
   ·rename_i m off k' len hx
    split at he
    ·rename_i hc; cases he; rw [Aw hap]; exact Sr h hd ho hk (Db hc.2.2.2) hi hx hc.1 hc.2.1 hc.2.2.1
    ·cases he
   ·cases he
  ·rename_i len e' k n hk hi
   split at he
   ·rename_i m off hx
    split at he
    ·rename_i hc; cases he; rw [Aw hap]; exact Su h hd ho hk (Db hc.2.2) hi hx hc.1 hc.2.1
    ·cases he
   ·rename_i cs hx
    split at he
    ·rename_i hc; cases he; rw [Aw hap]; exact P8 h hd ho hk (Db hc.2.2) hi hx hc.1 hc.2.1
    ·cases he
   ·cases he
  ·cases he
 | index t x i=>
  simp only [eff] at he
  split at he
  ·rename_i len e' cs k n hk hx hi
   split at he
   ·rename_i g hg
    split at he
    ·rename_i hc
     obtain ⟨y,hy,rfl⟩:=Option.map_eq_some_iff.1 he
     rw [Aw hap]; exact Aak h hd ho hk hg hi hx hc.1 hc.2.1 hc.2.2 hy
    ·cases he
   ·cases he
  ·cases he
 | binOp op t x y ty=>
  simp only [eff] at he
  split at he
  ·rename_i b c hx hy
   split at he
   ·rename_i hk
    obtain ⟨v,hv,rfl⟩:=Option.map_eq_some_iff.1 he
    rw [Aw hap]
    have hr:=fun w=>Afw (w:=w) hv (Afn hk)
    refine Cc h hd (v:=v) ?_ (.p _ _ (.val _ (hr w).2)) (AV.lives_p _ _)
    simp [execOp,ho,F7 (A0 h x) hx,F7 (A0 h y) hy,(hr w).1,Sk (u:=Value.bool b) rfl]
   ·cases he
  ·rename_i u u' _ hx hy
   obtain ⟨v,hv,rfl⟩:=Option.map_eq_some_iff.1 he
   rw [Aw hap]
   refine Cc h hd (v:=v) ?_ (.p _ _ (.val _ (Ai0 hv))) (AV.lives_p _ _)
   simp [execOp,ho,F7 (A0 h x) hx,F7 (A0 h y) hy,Ahh hv,Sk (Af5 hv)]
  ·rename_i cs ds hx hy
   unfold Gd at he
   split at he
   ·rename_i a' b' ha hb
    split at he
    ·rename_i hc
     obtain ⟨⟨hg,heq⟩,hl,hra,hrb⟩:=hc
     have e1:=Gl (A0 h x) hx ha
     have e2:=Gl (A0 h y) hy hb
     have hrun:=heq a' b' rfl hl.symm hra hrb w
     split at he
     ·cases he
      rw [Aw hap]
      refine Cc h hd (v:=.bool (decide (a'=b'))) ?_ (.p _ _ (.val _ rfl)) (AV.lives_p _ _)
      simp only [execOp,ho,e1,e2]
      refine Te ?_
      simp [eqGuard,hg,binOp,hrun]
     ·cases he
      rw [Aw hap]
      refine Cc h hd (v:=.bool (!decide (a'=b'))) ?_ (.p _ _ (.val _ rfl)) (AV.lives_p _ _)
      simp only [execOp,ho,e1,e2]
      refine Te ?_
      simp [eqGuard,hg,binOp,hrun]
     ·cases he
    ·cases he
   ·cases he
  ·cases he
 | unOp op t x=>
  simp only [eff] at he
  split at he
  ·rename_i b hx; cases he; rw [Aw hap]; exact Agm h hd ho hx
  ·rename_i k n hx; cases he; rw [Aw hap]; exact Afh h hd ho hx
  ·cases he
 | convert s t x=>
  simp only [eff] at he
  split at he
  ·rename_i k k' n hk hx
   split at he
   ·rename_i hs; cases he; rw [Aw hap]
    obtain ⟨i,u,_,hu⟩:=Ls (Db hs)
    exact Vw h hd ho ⟨u,hu⟩ hk hx
   ·cases he
  ·cases he
 | nilCheck x=>
  simp only [eff] at he
  split at he
  ·rename_i n off hx; cases he; rw [Aw hap,← hx]; exact H9 h hd ho (Jt (A0 h x) hx)
  ·rename_i n k i off hx; cases he; rw [Aw hap,← hx]; exact H9 h hd ho (Qa (A0 h x) hx)
  ·rename_i cs hx; cases he; rw [Aw hap,← hx]
   obtain ⟨b,off,hv,_⟩:=Yb (A0 h x) hx
   exact H9 h hd ho hv
  ·cases he
 | makeFunc f first captured=>simp only [eff,Option.some.injEq] at he; subst he; rw [Aw hap]; exact Ua h hd ho
 | extract x i=>
  simp only [eff] at he
  split at he
  ·rename_i vs hx
   obtain ⟨y,hy,rfl⟩:=Option.map_eq_some_iff.1 he
   rw [Aw hap]; exact Vm h hd ho hx hy
  ·cases he
 | build t parts=>
  simp only [eff] at he
  split at he
  ·rename_i hc
   split at he
   ·rename_i fs hk
    split at he
    ·cases he
    ·rename_i hfs
     obtain ⟨cs,hf,rfl⟩:=Option.map_eq_some_iff.1 he
     rw [Aw hap]
     refine Po h hd ho hk hc.1 hc.2.1 hc.2.2 (by cases hq:fs.all _ with | true=>rfl | false=>exact absurd hq hfs) hf ?_
     rw [AV.lives_agg]
     exact Ed _ _ _ _ (J2 _ _) (fun p hp=>by
      simp only [List.mem_map] at hp
      obtain ⟨q,_,rfl⟩:=hp
      exact Cr h q.2) hf
   ·rename_i n' e' hk
    split at he
    ·cases he
    ·rename_i hfs
     obtain ⟨cs,hf,rfl⟩:=Option.map_eq_some_iff.1 he
     rw [Aw hap]
     refine Sp h hd ho hk (Db (by cases hq:(Ab P e').agg.isSome with | true=>rfl | false=>exact absurd hq hfs)) hc.1 hc.2.1 hc.2.2 hf ?_
     rw [AV.lives_agg]
     exact Ed _ _ _ _ (J2 _ _) (fun p hp=>by
      simp only [List.mem_map] at hp
      obtain ⟨q,_,rfl⟩:=hp
      exact Cr h q.2) hf
   ·cases he
  ·cases he
 | buildSlice t len parts=>
  simp only [eff] at he
  split at he
  ·rename_i e' hk
   split at he
   ·rename_i es hp
    split at he
    ·rename_i hc; cases he
     obtain ⟨dk,h1,h2,h3,rfl⟩:=Kw hdd hap
     exact Rm h ho h1 (hd _ h1) h3 h2 hk (Db hc.2.1) hp hc.1 hc.2.2.1 hc.2.2.2
    ·cases he
   ·cases he
  ·cases he
 | makeSlice t l c=>
  simp only [eff] at he
  split at he
  ·rename_i e' n m hk hl hcc
   split at he
   ·rename_i hc; cases he
    obtain ⟨rfl,c1,c2,c3,c4,c5,c6,c7⟩:=hc
    obtain ⟨dk,h1,h2,h3,rfl⟩:=Kw hdd hap
    exact So h ho h1 (hd _ h1) h3 h2 hk (Db c7) hl hcc c1 c2 c3 c4 c5 c6
   ·cases he
  ·cases he
 | slice t x lo hi mx=>
  cases mx with
  | some m=>
   cases hi with
   | none=>simp [eff] at he
   | some hi=>
    simp only [eff] at he
    split at he
    ·rename_i e' hk
     split at he
     ·rename_i es l hh mm hx hl hhi hmx
      split at he
      ·rename_i hc; cases he; rw [Aw hap]
       obtain ⟨y,hy1,hy2⟩:=Option.bind_eq_some_iff.1 hx
       have hxy:ev st.t x=.p y:=by cases hv:ev st.t x <;> rw [hv] at hy1 <;> simp [AV.pv?] at hy1; rw [hy1]
       exact Ss h hd ho hk (Db hc.2.2.2.2.1) hxy hy2 hl hhi hmx hc.1 hc.2.1 hc.2.2.1 hc.2.2.2.1 (S9 hc.2.2.2.2.2)
      ·cases he
     ·cases he
    ·cases he
  | none=>
   simp only [eff] at he
   split at he
   ·rename_i e' hk
    split at he
    ·rename_i es l hx hl
     split at he
     ·rename_i hh hhi
      split at he
      ·rename_i hc; cases he; rw [Aw hap]
       obtain ⟨y,hy1,hy2⟩:=Option.bind_eq_some_iff.1 hx
       have hxy:ev st.t x=.p y:=by cases hv:ev st.t x <;> rw [hv] at hy1 <;> simp [AV.pv?] at hy1; rw [hy1]
       exact Ux h hd ho hk (Db hc.2.2.2.1) hxy hy2 hl hhi hc.1 hc.2.1 hc.2.2.1 (S9 hc.2.2.2.2)
      ·cases he
     ·cases he
    ·cases he
   ·rename_i len e' hk
    split at he
    ·rename_i n off l hh hx hl hhi
     split at he
     ·rename_i hc; cases he; rw [Aw hap]
      exact Sq h hd ho hk (Db hc.2.2.2.1) hx hl hhi hc.1 hc.2.1 hc.2.2.1 hc.2.2.2.2
     ·cases he
    ·cases he
   ·cases he
 | call c=>
  simp only [eff] at he
  split at he
  ·rename_i hcal
   split at he
   ·rename_i t x hty hargs
    have hty':c.argTypes=#[t]:=by apply Array.ext'; simpa using hty
    have hargs':c.args=#[x]:=by apply Array.ext'; simpa using hargs
    split at he
    ·rename_i e' hk
     split at he
     ·rename_i m len hx; cases he; rw [Aw hap]; exact Rp h hd ho hcal hargs' hty' hk (.inl ⟨m,hx⟩)
     ·rename_i m off k len hx; cases he; rw [Aw hap]; exact Rp h hd ho hcal hargs' hty' hk (.inr (.inl ⟨m,off,k,hx⟩))
     ·rename_i y hx
      obtain ⟨es,hes,rfl⟩:=Option.map_eq_some_iff.1 he
      rw [Aw hap]; exact Rp h hd ho hcal hargs' hty' hk (.inr (.inr ⟨y,es,hx,hes,rfl⟩))
     ·cases he
    ·rename_i n' e' hk; cases he; rw [Aw hap]; exact V6 h hd ho hcal hargs' hty' hk
    ·cases he
   ·cases he
  ·rename_i hcal
   obtain ⟨v,hv,rfl⟩:=Option.map_eq_some_iff.1 he
   rw [Aw hap]; exact Afb h hd ho hcal hv
  ·rename_i hcal
   obtain ⟨v,hv,rfl⟩:=Option.map_eq_some_iff.1 he
   rw [Aw hap]; exact Aey h hd ho hcal hv
  ·rename_i hcal
   split at he
   ·rename_i t t' s x hty hargs
    have hty':c.argTypes=#[t,t']:=by apply Array.ext'; simpa using hty
    have hargs':c.args=#[s,x]:=by apply Array.ext'; simpa using hargs
    have hc0:c={ callee:=.builtin .append,args:=#[s,x],argTypes:=#[t,t'] }:=by cases c; simp_all
    split at he
    ·rename_i e1 e2 hk hk'
     split at he
     ·rename_i xs hx
      split at he
      ·rename_i hc
       split at he
       ·rename_i hs
        split at he
        ·rename_i hb; cases he
         obtain ⟨dk,h1,h2,h3,rfl⟩:=Kw hdd hap
         exact Q7 h ho hc0 h1 (hd _ h1) h3 h2 hk hk' (Db hc.1) hc.2.2.1 hc.2.2.2.1 hc.2.2.2.2 hs hx (S9 hc.2.1) hb.1 hb.2
        ·cases he
       ·rename_i n len hs
        split at he
        ·rename_i k es hn
         split at he
         ·rename_i hb; cases he
          obtain ⟨rfl,rfl,hb1,hb2⟩:=hb
          obtain ⟨dk,h1,h2,h3,rfl⟩:=Ae2 hdd hap
          exact Ry h ho hc0 h1 (hd _ h1) h3 hk hk' (Db hc.1) hc.2.2.1 hc.2.2.2.1 hc.2.2.2.2 hs hn h2 hx (S9 hc.2.1) hb1 hb2
         ·cases he
        ·cases he
       ·cases he
      ·cases he
     ·cases he
    ·cases he
   ·cases he
  ·cases he
 | _=>simp [eff] at he
end
structure RX where
 rd:Option Nat
 mv:Nat→Prop
structure RB where
 x:RX
 b:Nat
 v:List Nat
 q:List Nat
abbrev RB.rd (r:RB):Option Nat:=r.x.rd
abbrev RB.mv (r:RB):Nat→Prop:=r.x.mv
def Wd (r:Option Nat):Fence:={ fn:=fun _=>True,depth:=none,alive:=false,round:=r }
inductive AEx where
 | normal
 | exit (id:Nat)
 | ret
def AEx.toExit:AEx→Exit
 | .normal=>.normal
 | .exit id=>.exit id
 | .ret=>.ret
def Ln (r:RB) (N B:Nat) (S:Nat→Prop) (θ:Nat→Loc) (M:Nat→Prop) (w:World) (st':St) (a':Act) (w':World):Prop:=
 ∃ θ' M',Av N B S θ' M' w' st' a'∧Bx (fun b=>B≤b∨S b) w w'∧(∀ n,n < r.b→¬ r.mv n→θ' n=θ n)∧(∀ b,b < B→M b→¬ S b→M' b)
theorem Adv.toM {r:RB} {N B:Nat} {S:Nat→Prop} {θ:Nat→Loc} {M:Nat→Prop} {w:World} {st':St} {a':Act} {w':World} (h:Adv r.b N B S θ M w st' a' w'):Ln r N B S θ M w st' a' w':=
 let ⟨θ',M',h1,h2,h3,h4⟩:=h
 ⟨θ',M',h1,h2,fun n hn _=>h3 n hn,fun b hb hm _=>h4 b hb hm⟩
theorem Ln.refl {r:RB} {N B:Nat} {S:Nat→Prop} {θ:Nat→Loc} {M:Nat→Prop} {w:World} {st:St} {a:Act} (h:Av N B S θ M w st a):Ln r N B S θ M w st a w:=
 ⟨θ,M,h,Bx.refl _ _,fun _ _ _=>rfl,fun _ _ h _=>h⟩
theorem Ln.trans {r:RB} {N B:Nat} {S:Nat→Prop} {θ θ':Nat→Loc} {M M':Nat→Prop} {w w' w'':World} {st'':St} {a'':Act}
  (h1:Bx (fun b=>B≤b∨S b) w w') (h2:∀ n,n < r.b→¬ r.mv n→θ' n=θ n) (h3:∀ b,b < B→M b→¬ S b→M' b) (h:Ln r N B S θ' M' w' st'' a'' w''):Ln r N B S θ M w st'' a'' w'':=by
 obtain ⟨θ2,M2,hs,hk,ht,hm⟩:=h
 exact ⟨θ2,M2,hs,h1.trans hk (fun _ _ h=>h),fun n hn hv=>(ht n hn hv).trans (h2 n hn hv),fun b hb h hn=>hm b hb (h3 b hb h hn) hn⟩
def Fin (r:RB) (N B:Nat) (S:Nat→Prop) (θ:Nat→Loc) (M:Nat→Prop) (w:World) (a:Act) (st':St) (a':Act) (w':World):Prop:=
 Ln r N B S θ M w st' a' w'∧a'.defers=a.defers
def AWP (P:Program) (r:RB) (N:Nat) (c:Code) (st:St) (Q:AEx→St→Prop):Prop:=
 ∀ B S θ M w a,Av N B S θ M w st a→c.wpIn (Wd r.rd) 0 P (fun e a' w'=>∃ ae st',e=ae.toExit∧Q ae st'∧Fin r N B S θ M w a st' a' w') a w
theorem Fin.trans {r:RB} {N B:Nat} {S:Nat→Prop} {θ θ':Nat→Loc} {M M':Nat→Prop} {w w' w'':World} {a a' a'':Act} {st'':St} (h1:Bx (fun b=>B≤b∨S b) w w') (h2:∀ n,n < r.b→¬ r.mv n→θ' n=θ n) (h3:∀ b,b < B→M b→¬ S b→M' b) (hd:a'.defers=a.defers)
  (h:Fin r N B S θ' M' w' a' st'' a'' w''):Fin r N B S θ M w a st'' a'' w'':=⟨Ln.trans h1 h2 h3 h.1,h.2.trans hd⟩
section
variable {P:Program} {r:RB} {N:Nat} {st:St} {Q:AEx→St→Prop}
theorem AWP.mono {c:Code} {Q':AEx→St→Prop} (h:AWP P r N c st Q) (hq:∀ e s,Q e s→Q' e s):AWP P r N c st Q':=
 fun B S θ M w a hs=>wpIn_mono (h B S θ M w a hs) fun _ _ _ ⟨ae,st',h1,h2,h3⟩=>⟨ae,st',h1,hq _ _ h2,h3⟩
theorem AWP.at {c:Code} (h:AWP P r N c st Q) {B:Nat} {S:Nat→Prop} {θ:Nat→Loc} {M:Nat→Prop} {w w':World} {a a':Act} (hf:Fin r N B S θ M w a st a' w') :
  c.wpIn (Wd r.rd) 0 P (fun e a'' w''=>∃ ae st',e=ae.toExit∧Q ae st'∧Fin r N B S θ M w a st' a'' w'') a' w':=by
 obtain ⟨⟨θ',M',hs,hk,ht,hm⟩,hd⟩:=hf
 exact wpIn_mono (h B S θ' M' w' a' hs) fun _ _ _ ⟨ae,st',h1,h2,h3⟩=>⟨ae,st',h1,h2,h3.trans hk ht hm hd⟩
theorem Aj (h:Q .normal st):AWP P r N .skip st Q:=fun _ _ _ _ _ _ hs=>wpIn_skip ⟨.normal,st,rfl,h,Ln.refl hs,rfl⟩
theorem Bg {id:Nat} (h:Q (.exit id) st):AWP P r N (.exit id) st Q:=fun _ _ _ _ _ _ hs=>wpIn_exit ⟨.exit id,st,rfl,h,Ln.refl hs,rfl⟩
theorem Ae (h:Q .ret st):AWP P r N .ret st Q:=fun _ _ _ _ _ _ hs=>wpIn_ret ⟨.ret,st,rfl,h,Ln.refl hs,rfl⟩
def H7 (K:St→Prop) (Q:AEx→St→Prop):AEx→St→Prop
 | .normal,s=>K s
 | e,s=>Q e s
theorem Amj {x y:Code} (h:AWP P r N x st (H7 (fun s=>AWP P r N y s Q) Q)):AWP P r N (.seq x y) st Q:=by
 intro B S θ M w a hs
 refine wpIn_seq (wpIn_mono (h B S θ M w a hs) fun e a' w' ⟨ae,st',h1,h2,h3⟩=>?_)
 subst h1
 cases ae with
 | normal=>exact AWP.at h2 h3
 | exit id=>exact ⟨.exit id,st',rfl,h2,h3⟩
 | ret=>exact ⟨.ret,st',rfl,h2,h3⟩
theorem Aa {x y:Code} (h:∀ K:St→Prop,(∀ s,AWP P r N y s Q→K s)→AWP P r N x st (H7 K Q)):AWP P r N (.seq x y) st Q:=Amj (h _ fun _ h=>h)
theorem Ag {c:Operand} {x y:Code} {b:Bool} (hc:ev st.t c=.p (.val (.bool b))) (ht:b=true→AWP P r N x st Q) (hf:b=false→AWP P r N y st Q):AWP P r N (.cond c x y) st Q:=by
 intro B S θ M w a hs
 exact wpIn_cond_split (T2 (A0 hs c) hc) (fun e=>ht e B S θ M w a hs) (fun e=>hf e B S θ M w a hs)
def Jl (id:Nat) (Q:AEx→St→Prop):AEx→St→Prop
 | .exit i,s=>if i=id then Q .normal s else Q (.exit i) s
 | e,s=>Q e s
theorem Ai {id:Nat} {c:Code} (h:AWP P r N c st (Jl id Q)):AWP P r N (.block id c) st Q:=by
 intro B S θ M w a hs
 refine wpIn_block (wpIn_mono (h B S θ M w a hs) fun e a' w' ⟨ae,st',h1,h2,h3⟩=>?_)
 subst h1
 cases ae with
 | normal=>exact ⟨.normal,st',rfl,h2,h3⟩
 | ret=>exact ⟨.ret,st',rfl,h2,h3⟩
 | exit i=>
  simp only [Jl] at h2
  simp only [AEx.toExit,Exit.inBlock]
  split at h2
  ·rename_i hi; rw [if_pos hi]; exact ⟨.normal,st',rfl,h2,h3⟩
  ·rename_i hi; rw [if_neg hi]; exact ⟨.exit i,st',rfl,h2,h3⟩
structure St.le (s1 s:St):Prop where
 t:∀ i,s1.t i=.undef∨s1.t i=s.t i
 o:∀ n,s1.o n=none∨s1.o n=s.o n
 cl:s1.closed
theorem Av.weaken {N B:Nat} {S:Nat→Prop} {θ:Nat→Loc} {M:Nat→Prop} {w:World} {st s1:St} {a:Act} (h:Av N B S θ M w st a) (hle:s1.le st):Av N B S θ M w s1 a:=by
 have ho:∀ n o,s1.o n=some o→st.o n=some o:=fun n o hn=>by
  rcases hle.o n with e | e
  ·rw [e] at hn; cases hn
  ·rw [← e]; exact hn
 refine ⟨h.size,fun i=>?_,fun n o hn=>h.ob n o (ho n o hn),fun n o hn=>h.lv n o (ho n o hn),fun n m hn hm=>?_,h.base,h.mlt,hle.cl⟩
 ·rcases hle.t i with e | e
  ·rw [e]; exact .undef _
  ·rw [e]; exact h.tm i
 ·obtain ⟨o,ho1⟩:=Option.isSome_iff_exists.1 hn
  obtain ⟨o',ho2⟩:=Option.isSome_iff_exists.1 hm
  exact h.inj n m (by rw [ho n o ho1]; rfl) (by rw [ho m o' ho2]; rfl)
theorem Sv {F:Fence} {n:Nat} {P:Program} {α:Type} {c:Code} {Q:Exit→Act→World→Prop} (I:α→Act→World→Prop) (μ:α→Nat)
  (round:∀ x a w,I x a w→c.wpIn F n P (Exit.then (fun a' w'=>∃ y,I y a' w'∧μ y < μ x) Q) a w) {a:Act} {w:World} (x0:α) (h0:I x0 a w):(Code.loop c).wpIn F n P Q a w:=by
 intro b k cs hro hb hr
 have key:∀ j x a w,μ x=j→I x a w →
   ∃ e a' w',Q e a' w'∧ArrivesIn (Machine.fenced P F) P (lone (b.atR a (.code c :: .inLoop c :: k)) cs w) b k cs e a' w':=by
  intro j
  induction j using Nat.strongRecOn with
  | _ j ih=>
   intro x a w hn hI
   obtain ⟨e,a₁,w₁,hq,harr⟩:=round x a w hI b (.inLoop c :: k) cs hro hb hr
   cases e with
   | normal=>
    obtain ⟨y,hI₁,hlt⟩:=hq
    obtain ⟨e₂,a₂,w₂,hq₂,harr₂⟩:=ih (μ y) (hn ▸ hlt) y a₁ w₁ rfl hI₁
    exact ⟨e₂,a₂,w₂,hq₂,.of_steps (StepsIn.trans harr (.one (fenced_calm hb hr rfl) stepR_inLoop)) harr₂⟩
   | exit id=>exact ⟨_,a₁,w₁,hq,.pass (x:=.inLoop c) rfl (fun _ _=>.inl (by simp)) harr⟩
   | goto l=>exact ⟨_,a₁,w₁,hq,.pass (x:=.inLoop c) rfl (fun _ _=>.inl (by simp)) harr⟩
   | ret=>exact ⟨_,a₁,w₁,hq,.pass (x:=.inLoop c) rfl (fun _ _=>.inl (by simp)) harr⟩
   | panic ch=>exact ⟨_,a₁,w₁,hq,.pass (x:=.inLoop c) rfl (fun _ _=>.inl (by simp)) harr⟩
   | outgrown=>exact ⟨_,a₁,w₁,hq,.pass (x:=.inLoop c) rfl (fun _ _=>.inl (by simp)) harr⟩
 obtain ⟨e,a',w',hq,harr⟩:=key _ x0 a w rfl h0
 exact ⟨e,a',w',hq,.of_steps (.one (fenced_calm hb hr rfl) stepR_loop) harr⟩
theorem Alq {α:Type} (I:α→St) (μ:α→Nat) (ok:α→Prop) {c:Code} (x0:α) (h0:ok x0) (hle:(I x0).le st)
  (hstep:∀ x,ok x→AWP P r N c (I x) (H7 (fun s=>∃ y,ok y∧μ y < μ x∧(I y).le s) Q)):AWP P r N (.loop c) st Q:=by
 intro B S θ M w a hs
 refine Sv (fun x a' w'=>ok x∧Fin r N B S θ M w a (I x) a' w') μ ?_ x0 ⟨h0,Ln.refl (hs.weaken hle),rfl⟩
 intro x a1 w1 ⟨hx,hf⟩
 refine wpIn_mono (AWP.at (hstep x hx) hf) fun e a' w' ⟨ae,st',h1,h2,h3⟩=>?_
 subst h1
 cases ae with
 | normal=>
  obtain ⟨y,hy,hlt,hle'⟩:=h2
  obtain ⟨⟨θ',M',hs',hk,ht,hm⟩,hd⟩:=h3
  exact ⟨y,⟨hy,⟨θ',M',hs'.weaken hle',hk,ht,hm⟩,hd⟩,hlt⟩
 | exit id=>exact ⟨.exit id,st',rfl,h2,h3⟩
 | ret=>exact ⟨.ret,st',rfl,h2,h3⟩
def D1 (P:Program) (r:RB) (N:Nat) (o:Oper) (st:St) (K:St→Prop):Prop:=
 ∀ B S θ M w a (Q:Exit→Act→World→Prop),Av N B S θ M w st a→o.wpIn (Wd r.rd) 0 P a w (fun a' w'=>∃ st',K st'∧Fin r N B S θ M w a st' a' w') Q
def Dc:AV:=.tup []
def Kk (all:List Oper) (j:Nat):Option Nat:=(all[j]?).bind (·.dst)
def AL (P:Program) (r:RB) (N:Nat) (all:List Oper) (l:List Oper) (st:St) (K:St→Prop):Prop:=
 ∀ B S θ M w a (Q:Exit→Act→World→Prop),Av N B S θ M w st a→(∀ a' w',(∃ st',K st'∧Fin r N B S θ M w a st' a' w')→Q .normal a' w')→∀ L:List Nat,L.map (fun i=>all[i]?)=l.map some→wpOpsIn (Wd r.rd) 0 P all.toArray Q L a w
theorem AL.nil {all:List Oper} {K:St→Prop} (h:K st):AL P r N all [] st K:=by
 intro B S θ M w a Q hs hQ L hL
 have:L=[]:=by simpa using hL
 subst this
 exact hQ a w ⟨st,h,Ln.refl hs,rfl⟩
theorem Fin.comp {N B:Nat} {S:Nat→Prop} {θ:Nat→Loc} {M:Nat→Prop} {w w':World} {a a':Act} {st':St} (hf:Fin r N B S θ M w a st' a' w') :
  ∃ θ' M',Av N B S θ' M' w' st' a'∧∀ st'' a'' w'',Fin r N B S θ' M' w' a' st'' a'' w''→Fin r N B S θ M w a st'' a'' w'':=by
 obtain ⟨⟨θ',M',hs,hk,ht,hm⟩,hd⟩:=hf
 exact ⟨θ',M',hs,fun st'' a'' w'' h=>h.trans hk ht hm hd⟩
theorem AL.cons_run {all rest:List Oper} {o:Oper} {K:St→Prop} (hw:∀ N B S θ M w a,Av N B S θ M w st a→Region.wanted o (yielded all.toArray a.tmps)=true) (h:D1 P r N o st (fun s=>AL P r N all rest s K)):AL P r N all (o :: rest) st K:=by
 intro B S θ M w a Q hs hQ L hL
 match L,hL with
 | i :: L',hL=>
  simp only [List.map_cons,List.cons.injEq] at hL
  obtain ⟨hi,hL'⟩:=hL
  have hi':all.toArray[i]?=some o:=by simpa using hi
  simp only [wpOpsIn,hi',hw _ _ _ _ _ _ _ hs,if_true]
  refine Oper.wpIn_mono ?_ (h B S θ M w a Q hs)
  rintro a' w' ⟨st',hal,hf⟩
  obtain ⟨θ',M',hs',hcomp⟩:=hf.comp
  exact hal B S θ' M' w' a' Q hs' (fun a'' w'' ⟨st'',hk,hf'⟩=>hQ a'' w'' ⟨st'',hk,hcomp _ _ _ hf'⟩) L' hL'
 | [],hL=>simp at hL
theorem AL.cons_skip {all rest:List Oper} {o:Oper} {K:St→Prop} (hd:∀ k,o.dst=some k→k < N) (hw:∀ N B S θ M w a,Av N B S θ M w st a→Region.wanted o (yielded all.toArray a.tmps)=false) (h:AL P r N all rest (st.put o.dst Dc) K):AL P r N all (o :: rest) st K:=by
 intro B S θ M w a Q hs hQ L hL
 match L,hL with
 | i :: L',hL=>
  simp only [List.map_cons,List.cons.injEq] at hL
  obtain ⟨hi,hL'⟩:=hL
  have hi':all.toArray[i]?=some o:=by simpa using hi
  simp only [wpOpsIn,hi',hw _ _ _ _ _ _ _ hs,Bool.false_eq_true,if_false]
  have hs':Av N B S θ M w (st.put o.dst Dc) (a.put o.dst undef):=hs.put hd (.tup [] #[] rfl (fun i x h=>by simp at h)) (fun n hn=>by simp [Dc,AV.clean,AV.clean.cleanL] at hn)
  refine ⟨fun _ _=>trivial,h B S θ M w _ Q hs' (fun a'' w'' ⟨st'',hk,hf'⟩=>hQ a'' w'' ⟨st'',hk,hf'.1,hf'.2.trans (by cases o.dst <;> rfl)⟩) L' hL'⟩
 | [],hL=>simp at hL
def M3:AV→Option (Option Bool)
 | .p (.val (.bool b))=>some (some b)
 | .tup []=>some none
 | _=>none
theorem Lp {all:List Oper} {j t:Nat} (hj:Kk all j=some t) {g:Option Bool} (hg:M3 (st.t t)=some g) {B:Nat} {S:Nat→Prop} {θ:Nat→Loc} {M:Nat→Prop} {w:World} {a:Act} (hs:Av N B S θ M w st a):yielded all.toArray a.tmps j=g:=by
 have hr:=hs.tm t
 have hd:(all.toArray[j]?).bind (·.dst)=some t:=by simpa [Kk] using hj
 unfold yielded
 rw [hd]
 simp only [Option.bind_some]
 unfold M3 at hg
 split at hg
 ·rename_i b hb
  cases hg
  have:=T2 hr hb
  rw [Array.getD_eq_getD_getElem?] at this
  cases ht:a.tmps[t]? with
  | none=>rw [ht] at this; simp [undef] at this
  | some v=>rw [ht] at this; simp at this; subst this; rfl
 ·rename_i hb
  cases hg
  rw [hb] at hr
  generalize hv:a.tmps.getD t undef=v at hr
  cases hr with
  | tup _ vs hsz _=>
   rw [Array.getD_eq_getD_getElem?] at hv
   cases ht:a.tmps[t]? with
   | none=>rfl
   | some u=>rw [ht] at hv; simp at hv; subst hv; rfl
 ·cases hg
theorem AL.step {all rest:List Oper} {dst:Option Nat} {op:Op} {ty:TypeId} {pos:String} {after:Array Edge} {K:St→Prop} (h:D1 P r N ⟨dst,op,ty,pos,after,none⟩ st (fun s=>AL P r N all rest s K)) :
  AL P r N all (⟨dst,op,ty,pos,after,none⟩ :: rest) st K:=AL.cons_run (fun _ _ _ _ _ _ _ _=>rfl) h
theorem AL.guard {all rest:List Oper} {dst:Option Nat} {op:Op} {ty:TypeId} {pos:String} {after:Array Edge} {K:St→Prop} {j t:Nat} {want:Bool} {g:Option Bool} (hd:∀ k,dst=some k→k < N) (hj:Kk all j=some t) (hg:M3 (st.t t)=some g)
  (hy:g=some want→D1 P r N ⟨dst,op,ty,pos,after,some (j,want)⟩ st (fun s=>AL P r N all rest s K)) (hn:g≠some want→AL P r N all rest (st.put dst Dc) K) :
  AL P r N all (⟨dst,op,ty,pos,after,some (j,want)⟩ :: rest) st K:=by
 by_cases h:g=some want
 ·exact AL.cons_run (fun _ _ _ _ _ _ _ hs=>by simp [Region.wanted,Lp hj hg hs,h]) (hy h)
 ·exact AL.cons_skip hd (fun _ _ _ _ _ _ _ hs=>by simpa [Region.wanted,Lp hj hg hs] using h) (hn h)
theorem Pz {id:Nat} {ops:List Oper} (h:AL P r N ops ops st (Q .normal)):AWP P r N (.region id ops.toArray false) st Q:=by
 intro B S θ M w a hs
 refine wpIn_region (h B S θ M w a _ hs (fun a' w' ⟨st',hk,hf⟩=>⟨.normal,st',rfl,hk,hf⟩) _ ?_)
 apply List.ext_getElem?
 intro i
 by_cases hi:i < ops.length
 ·simp [hi]
 ·simp [hi]
theorem D1.eff {o:Oper} {K:St→Prop} {d:Nat} (hnd:∀ c,o.op≠.defer c) (hd:∀ k,o.dst=some k→k < N) (hdd:∀ k,o.dst=some k→d=r.b+k) {e:Eff} (he:AM.eff P d o.op (ev st.t) st.o=some e) {st':St} (hap:e.apply r.b o.dst st=some st') (h:K st'):D1 P r N o st K:=by
 intro B S θ M w a Q hs
 obtain ⟨v,w',hr,hadv⟩:=Ae7 hs hd hdd he hap
 refine ⟨fun _ _=>trivial,?_⟩
 rw [Oper.semAt_eq _ _ _ hnd]
 rcases hr with hr | ⟨hr,rfl⟩
 ·rw [hr]; exact ⟨st',h,hadv.toM,by cases o.dst <;> rfl⟩
 ·rw [hr]; exact ⟨st',h,hadv.toM,by cases o.dst <;> rfl⟩
end
def AV.isP:AV→Bool
 | .p _=>true
 | .agg cs=>isPL cs
 | .tup cs=>isPL cs
 | .fn _ fs cs=>isPL fs&&isPL cs
 | _=>false
 where isPL:List AV→Bool
 | []=>true
 | x :: r=>x.isP&&isPL r
theorem Qp (l:List AV):AV.isP.isPL l=true↔∀ (i:Nat) (x:AV),l[i]?=some x→x.isP=true:=by
 induction l with
 | nil=>simp [AV.isP.isPL]
 | cons y r ih=>
  simp only [AV.isP.isPL,Bool.and_eq_true,ih]
  constructor
  ·rintro ⟨h1,h2⟩ i x hx
   cases i with
   | zero=>simp at hx; exact hx ▸ h1
   | succ i=>exact h2 i x (by simpa using hx)
  ·intro h
   exact ⟨h 0 y (by simp),fun i x hx=>h (i+1) x (by simpa using hx)⟩
theorem Ar.nameless {θ:Nat→Loc} {M:Nat→Prop} {w:World} {x:AV} {v:Value} (h:Ar θ M w x v) (θ':Nat→Loc):x.isP=true→Ar θ' M w x v:=by
 induction h with
 | p x v h=>exact fun _=>.p x v h
 | agg cs vs hs ho _ ih=>intro h; simp only [AV.isP,Qp] at h; exact .agg cs vs hs ho (fun i x hx=>ih i x hx (h i x hx))
 | tup cs vs hs _ ih=>intro h; simp only [AV.isP,Qp] at h; exact .tup cs vs hs (fun i x hx=>ih i x hx (h i x hx))
 | fn f fs cs vfs vcs h1 h2 _ _ ih1 ih2=>intro h; simp only [AV.isP,Bool.and_eq_true,Qp] at h; exact .fn f fs cs vfs vcs h1 h2 (fun i x hx=>ih1 i x hx (h.1 i x hx)) (fun i x hx=>ih2 i x hx (h.2 i x hx))
 | _=>intro h; simp [AV.isP] at h
theorem Cy (os:Nat→Option AO) {x:AV} (h:x.isP=true):x.lives os:=by
 have:∀ n,x.clean n=true:=by
  intro n
  induction x using AV.rec (motive_2:=fun l=>AV.isP.isPL l=true→AV.clean.cleanL n l=true) with
  | p x=>rfl
  | agg cs ih=>simp only [AV.isP] at h; simp only [AV.clean]; exact ih h
  | tup cs ih=>simp only [AV.isP] at h; simp only [AV.clean]; exact ih h
  | fn f fs cs ih1 ih2=>simp only [AV.isP,Bool.and_eq_true] at h; simp only [AV.clean,Bool.and_eq_true]; exact ⟨ih1 h.1,ih2 h.2⟩
  | nil=>rfl
  | cons y r ih1 ih2=>
   rename_i h2
   simp only [AV.isP.isPL,Bool.and_eq_true] at h2
   simp only [AV.clean.cleanL,Bool.and_eq_true]
   exact ⟨ih1 h2.1,ih2 h2.2⟩
  | _=>simp [AV.isP] at h
 intro n hn
 rw [this n] at hn; cases hn
def AV.scal:AV→Bool
 | .p (.val _)=>true
 | .agg cs=>scalL cs
 | .tup cs=>scalL cs
 | _=>false
 where scalL:List AV→Bool
 | []=>true
 | x :: r=>x.scal&&scalL r
theorem Wf (l:List AV):AV.scal.scalL l=true↔∀ (i:Nat) (x:AV),l[i]?=some x→x.scal=true:=by
 induction l with
 | nil=>simp [AV.scal.scalL]
 | cons y r ih=>
  simp only [AV.scal.scalL,Bool.and_eq_true,ih]
  constructor
  ·rintro ⟨h1,h2⟩ i x hx
   cases i with
   | zero=>simp at hx; exact hx ▸ h1
   | succ i=>exact h2 i x (by simpa using hx)
  ·intro h
   exact ⟨h 0 y (by simp),fun i x hx=>h (i+1) x (by simpa using hx)⟩
theorem Ar.scalar {θ:Nat→Loc} {M:Nat→Prop} {w:World} {x:AV} {v:Value} (h:Ar θ M w x v) (M':Nat→Prop) (w':World):x.scal=true→Ar θ M' w' x v:=by
 induction h with
 | p x v h=>
  intro hs
  cases h with
  | val v h=>exact .p _ _ (.val v h)
  | _=>simp [AV.scal] at hs
 | agg cs vs hs ho _ ih=>intro h; simp only [AV.scal,Wf] at h; exact .agg cs vs hs ho (fun i x hx=>ih i x hx (h i x hx))
 | tup cs vs hs _ ih=>intro h; simp only [AV.scal,Wf] at h; exact .tup cs vs hs (fun i x hx=>ih i x hx (h i x hx))
 | _=>intro h; simp [AV.scal] at h
def Fe (os:Nat→Option AO):AV→Option AV
 | .p x=>some (.p x)
 | .own n len=>(Dd os (.own n len)).map fun es=>.p (.sl es)
 | .csl n off k len=>(Dd os (.csl n off k len)).map fun es=>.p (.sl es)
 | .fn f [] []=>some (.fn f [] [])
 | _=>none
def H2 (os:Nat→Option AO):List AV→Option (List AV)
 | []=>some []
 | x :: r=>match Fe os x,H2 os r with | some y,some ys=>some (y :: ys) | _,_=>none
def Gb (os:Nat→Option AO):AV→Option AV
 | .agg cs=>(H2 os cs).map .agg
 | x=>Fe os x
def D7 (os:Nat→Option AO):List AV→Option (List AV)
 | []=>some []
 | x :: r=>match Gb os x,D7 os r with | some y,some ys=>some (y :: ys) | _,_=>none
theorem Wi {os:Nat→Option AO}:∀ {l l':List AV},H2 os l=some l'→l'.length=l.length∧∀ (i:Nat) (y:AV),l'[i]?=some y→∃ x,l[i]?=some x∧Fe os x=some y
 | [],l',h=>by simp only [H2,Option.some.injEq] at h; subst h; exact ⟨rfl,fun i y hy=>by simp at hy⟩
 | x :: r,l',h=>by
  simp only [H2] at h
  cases h1:Fe os x with
  | none=>simp [h1] at h
  | some y=>
   cases h2:H2 os r with
   | none=>simp [h1,h2] at h
   | some ys=>
    simp only [h1,h2,Option.some.injEq] at h
    subst h
    obtain ⟨h3,h4⟩:=Wi h2
    refine ⟨by simp [h3],fun i z hz=>?_⟩
    cases i with
    | zero=>simp at hz; subst hz; exact ⟨x,by simp,h1⟩
    | succ i=>obtain ⟨x',h5,h6⟩:=h4 i z (by simpa using hz); exact ⟨x',by simpa using h5,h6⟩
theorem Lo {os:Nat→Option AO}:∀ {l l':List AV},D7 os l=some l'→l'.length=l.length∧∀ (i:Nat) (y:AV),l'[i]?=some y→∃ x,l[i]?=some x∧Gb os x=some y
 | [],l',h=>by simp only [D7,Option.some.injEq] at h; subst h; exact ⟨rfl,fun i y hy=>by simp at hy⟩
 | x :: r,l',h=>by
  simp only [D7] at h
  cases h1:Gb os x with
  | none=>simp [h1] at h
  | some y=>
   cases h2:D7 os r with
   | none=>simp [h1,h2] at h
   | some ys=>
    simp only [h1,h2,Option.some.injEq] at h
    subst h
    obtain ⟨h3,h4⟩:=Lo h2
    refine ⟨by simp [h3],fun i z hz=>?_⟩
    cases i with
    | zero=>simp at hz; subst hz; exact ⟨x,by simp,h1⟩
    | succ i=>obtain ⟨x',h5,h6⟩:=h4 i z (by simpa using hz); exact ⟨x',by simpa using h5,h6⟩
section
variable {P:Program} {r:RB} {N B:Nat} {S:Nat→Prop} {θ:Nat→Loc} {M M2:Nat→Prop} {w:World} {st:St} {a:Act} {o:Oper}
def L4 (st:St) (θ:Nat→Loc) (M2:Nat→Prop):Prop:=∀ n o,st.o n=some o→(θ n).nil=false→¬ M2 (θ n).blk
theorem Ais (h:Av N B S θ M w st a) (hM:∀ b,M2 b→M b) (ho:L4 st θ M2) {n len:Nat} {v:Value} (hv:Ar θ M w (.own n len) v) {es:List (List PV)} (he:Dd st.o (.own n len)=some es):Cp M2 w (.sl es) v:=by
 simp only [Dd] at he
 split at he
 ·rename_i k es' hn
  split at he
  ·rename_i hle
   have he:=Option.some.inj he
   subst he
   obtain ⟨hk,h1⟩:=h.ob n _ hn
   rcases Ra hv with ⟨hnil,rfl,rfl⟩ | ⟨hnil,hcap,rfl⟩
   ·rw [List.take_zero]; exact .nil
   ·rcases h1 with ⟨h0,_⟩ | ⟨_,hc,cur,e,hb,hs,ho1,hx⟩
    ·rw [h0] at hnil; cases hnil
    ·have hlen:(es'.take len).length=len:=by simp [Nat.min_eq_left hle]
     have hget:∀ (i:Nat) (e:List PV),(es'.take len)[i]?=some e→es'[i]?=some e:=fun i e hi=>by
      rw [List.getElem?_take] at hi
      split at hi
      ·exact hi
      ·cases hi
     have:=Cp.sl (M:=M2) (w:=w) (es'.take len) (θ n).blk 0 (θ n).cap k (fun i j=>cur.getD (i * k+j) undef) (fun i e hi=>hk i e (hget i e hi)) (by rw [hlen]; exact hcap) (fun i e j x hi hj=>by
       refine ⟨ho n _ hn hnil,?_⟩
       have hi':=hget i e hi
       have hjk:j < k:=by rw [← hk i e hi']; exact (List.getElem?_eq_some_iff.1 hj).1
       have hil:=(List.getElem?_eq_some_iff.1 hi').1
       have hlt:i * k+j < cur.size:=by
        rw [hs]
        have:(i+1) * k≤(θ n).cap * k:=Nat.mul_le_mul_right _ (by omega)
        rw [Nat.add_mul] at this; omega
       rw [Nat.zero_add]
       exact C2 hb (by simp [hlt])) (fun i e j x hi hj=>(hx i e j x (hget i e hi) hj).mono (fun _ _ _=>rfl) (fun b _ hb=>hM b hb))
     rw [hlen] at this
     exact this
  ·cases he
 ·cases he
theorem Ajo (h:Av N B S θ M w st a) (hM:∀ b,M2 b→M b) (ho:L4 st θ M2) {n off k len:Nat} {v:Value} (hv:Ar θ M w (.csl n off k len) v) {es:List (List PV)} (he:Dd st.o (.csl n off k len)=some es):Cp M2 w (.sl es) v:=by
 simp only [Dd] at he
 split at he
 ·rename_i cs hn
  split at he
  ·rename_i hle
   obtain ⟨ps,hp,rfl⟩:=Option.map_eq_some_iff.1 he
   obtain ⟨hnil,cur,e,hb,hrl⟩:=Aco h hn
   have hps:=Nk hp
   have hlen:ps.length=len * k:=by have:=congrArg List.length hps; simp at this; omega
   have hsub:RL (Ar θ M w) (ps.map .p) ((cur.toList.drop off).take (len * k)):=by rw [← hps]; exact (hrl.drop off).take _
   cases hv with
   | csl _ _ _ _ cap hcap=>
    have hgetj:∀ (i:Nat) (e:List PV) (j:Nat) (x:PV),(Jf k len ps)[i]?=some e→e[j]?=some x→i < len∧j < k∧ps[i * k+j]?=some x:=fun i e j x hi hj=>by
     have hil:i < len:=by have:=(List.getElem?_eq_some_iff.1 hi).1; rwa [Cz] at this
     rw [Je k len ps i hil] at hi
     have hi:=Option.some.inj hi
     subst hi
     rw [List.getElem?_take] at hj
     split at hj
     ·rename_i hjk; rw [List.getElem?_drop] at hj; exact ⟨hil,hjk,hj⟩
     ·cases hj
    have:=Cp.sl (M:=M2) (w:=w) (Jf k len ps) (θ n).blk off cap k (fun i j=>((cur.toList.drop off).take (len * k)).getD (i * k+j) undef) (fun i e hi=>by
      have hil:i < len:=by have:=(List.getElem?_eq_some_iff.1 hi).1; rwa [Cz] at this
      rw [Je k len ps i hil] at hi
      have hi:=Option.some.inj hi
      subst hi
      have:(i+1) * k≤len * k:=Nat.mul_le_mul_right _ (by omega)
      rw [Nat.add_mul] at this
      simp; omega) (by rw [Cz]; exact hcap) (fun i e j x hi hj=>by
      obtain ⟨hil,hjk,hx⟩:=hgetj i e j x hi hj
      refine ⟨ho n _ hn hnil,?_⟩
      obtain ⟨u,h1,_,_⟩:=hsub.2 (i * k+j) (.p x) (by simp [hx])
      have h1':=h1
      rw [List.getElem?_take] at h1
      split at h1
      ·rw [List.getElem?_drop] at h1
       have:((cur.toList.drop off).take (len * k)).getD (i * k+j) undef=u:=by simp only [List.getD]; rw [h1']; rfl
       rw [this]
       exact C2 hb (by simpa using h1)
      ·cases h1) (fun i e j x hi hj=>by
      obtain ⟨hil,hjk,hx⟩:=hgetj i e j x hi hj
      obtain ⟨u,h1,_,h3⟩:=hsub.2 (i * k+j) (.p x) (by simp [hx])
      have:((cur.toList.drop off).take (len * k)).getD (i * k+j) undef=u:=by simp only [List.getD]; rw [h1]; rfl
      rw [this]
      cases h3 with
      | p _ _ hp=>exact hp.mono (fun _ _ _=>rfl) (fun b _ hb=>hM b hb))
    rw [Cz] at this
    exact this
  ·cases he
 ·cases he
theorem Hy (h:Av N B S θ M w st a) (hM:∀ b,M2 b→M b) (ho:L4 st θ M2) {x y:AV} {v:Value} (hv:Ar θ M w x v) (hy:Fe st.o x=some y):Ar θ M2 w y v∧y.isP=true:=by
 cases x with
 | p x=>simp only [Fe,Option.some.injEq] at hy; subst hy; exact ⟨hv.mono (fun _ _ _=>rfl) (fun b _ hb=>hM b hb),rfl⟩
 | own n len=>
  simp only [Fe] at hy
  obtain ⟨es,he,rfl⟩:=Option.map_eq_some_iff.1 hy
  exact ⟨.p _ _ (Ais h hM ho hv he),rfl⟩
 | csl n off k len=>
  simp only [Fe] at hy
  obtain ⟨es,he,rfl⟩:=Option.map_eq_some_iff.1 hy
  exact ⟨.p _ _ (Ajo h hM ho hv he),rfl⟩
 | fn f fs cs=>
  cases fs with
  | cons _ _=>simp [Fe] at hy
  | nil=>cases cs with
   | cons _ _=>simp [Fe] at hy
   | nil=>
    simp only [Fe,Option.some.injEq] at hy; subst hy
    exact ⟨hv.mono (fun _ _ _=>rfl) (fun b _ hb=>hM b hb),rfl⟩
 | _=>simp [Fe] at hy
theorem Kn (h:Av N B S θ M w st a) (hM:∀ b,M2 b→M b) (ho:L4 st θ M2) {x y:AV} {v:Value} (hv:Ar θ M w x v) (hy:Gb st.o x=some y):Ar θ M2 w y v∧y.isP=true:=by
 cases x with
 | agg cs=>
  simp only [Gb] at hy
  obtain ⟨cs',hc,rfl⟩:=Option.map_eq_some_iff.1 hy
  obtain ⟨hl,hg⟩:=Wi hc
  cases hv with
  | agg _ vs hs hone hr=>
   refine ⟨.agg cs' vs (by rw [hl]; exact hs) (fun i hi=>hone i (by rw [← hl]; exact hi)) (fun i z hz=>?_),?_⟩
   ·obtain ⟨x,h1,h2⟩:=hg i z hz
    exact (Hy h hM ho (hr i x h1) h2).1
   ·simp only [AV.isP,Qp]
    intro i z hz
    obtain ⟨x,h1,h2⟩:=hg i z hz
    exact (Hy h hM ho (hr i x h1) h2).2
 | p x=>exact Hy h hM ho hv hy
 | own n len=>exact Hy h hM ho hv hy
 | csl n off k len=>exact Hy h hM ho hv hy
 | fn f fs cs=>exact Hy h hM ho hv hy
 | _=>simp [Gb,Fe] at hy
def Bf (P:Program) (f:FuncId) (args:List AV) (res:AV):Prop:=
 res.isP=true∧∀ (θ:Nat→Loc) (M:Nat→Prop) (w:World) (vs:Array Value),(∀ b,M b→b < w.heap.size)→vs.size=args.length→(∀ (i:Nat) (x:AV),args[i]?=some x→Ar θ M w x (vs.getD i undef)) →
  Calls P f vs w fun e w'=>∃ v,e=.returned v∧Ar θ M w' res v∧Bx (fun b=>w.heap.size≤b) w w'
def Bs (P:Program) (f:FuncId):Bool:=match P.funcs[f]? with
 | some fn => !(fn.name == "runtime.NumGoroutine") && fn.body.isSome
 | none=>false
theorem Tu {c:Call} {f:FuncId} (ho:o.op=.call c) (hc:c.callee=.value (.func f)) (hf:Bs P f=true):(execOp a.eval o).run P w=.ok (.enter f (c.args.map a.eval)) w:=by
 unfold Bs at hf
 cases hfn:P.funcs[f]? with
 | none=>simp [hfn] at hf
 | some fn=>
  simp only [hfn,Bool.and_eq_true,Bool.not_eq_true',beq_eq_false_iff_ne] at hf
  obtain ⟨bd,hb⟩:=Option.isSome_iff_exists.1 hf.2
  simp [execOp,ho,hc,resolve,Act.eval,Deferred.ofValue,invoke,callFunc,hfn,hf.1,hb]
theorem Du {r:Option Nat} {n:Nat} {f:FuncId} {args:Array Value} {R:Ending→World→Prop} (h:Calls P f args w R):CallsIn (Wd r) n P f args w R:=(callsIn_wide (n:=n)).2 h
theorem Av.ext (h:Av N B S θ M w st a) {w':World} (hk:Bx (fun b=>w.heap.size≤b) w w'):Av N B S θ M w' st a:=by
 have hs:∀ b,b < w.heap.size→w'.heap[b]?=w.heap[b]?:=fun b hb=>hk.same b hb (by omega)
 exact ⟨h.size,fun i=>(h.tm i).mono (fun b hb _=>hs b hb) (fun _ _ h=>h),
  fun n o hn=>(h.ob n o hn).mono (fun hnil=>hs _ (h.mlt _ (h.lv n o hn hnil).1)) (fun x v hr _=>hr.mono (fun b hb _=>hs b hb) (fun _ _ h=>h)) (fun x v hp=>hp.mono (fun b hb _=>hs b hb) (fun _ _ h=>h)),
  h.lv,h.inj,Nat.le_trans h.base hk.size,fun b hb=>Nat.lt_of_lt_of_le (h.mlt b hb) hk.size,h.cl⟩
def Nu (st:St) (θ:Nat→Loc) (M:Nat→Prop):Nat→Prop:=fun b=>M b∧¬ ∃ n o,st.o n=some o∧(θ n).nil=false∧(θ n).blk=b
theorem Ub {K:St→Prop} {c:Call} {f:FuncId} (ho:o.op=.call c) (hd:∀ k,o.dst=some k→k < N) (hc:c.callee=.value (.func f)) (hf:Bs P f=true) {args:List AV} (hargs:D7 st.o (c.args.toList.map (ev st.t))=some args) {res:AV} (hcall:Bf P f args res)
  (hs:res.scal=true∨(c.args.toList.map (ev st.t))=args) (h:K (st.put o.dst res)):D1 P r N o st K:=by
 intro B S θ M w a Q hsr
 refine ⟨fun _ _=>trivial,?_⟩
 rw [Oper.semAt_eq _ _ _ (by rw [ho]; intro c h; cases h),Tu ho hc hf]
 refine ⟨fun h=>by simp [Wd] at h,Du ?_⟩
 obtain ⟨hl,hg⟩:=Lo hargs
 have hres:=hcall.1
 have main:∀ M2:Nat→Prop,(∀ b,M2 b→M b)→(∀ (i:Nat) (y:AV),args[i]?=some y→Ar θ M2 w y ((c.args.map a.eval).getD i undef))→(∀ w' v,Ar θ M2 w' res v→Ar θ M w' res v) →
   ∀ R:Ending→World→Prop,(∀ v w',(∃ st',K st'∧Fin r N B S θ M w a st' (a.put o.dst v) w')→R (.returned v) w')→Calls P f (c.args.map a.eval) w R:=by
  intro M2 hM2 hrel hback R hR
  refine (hcall.2 θ M2 w (c.args.map a.eval) (fun b hb=>hsr.mlt b (hM2 b hb)) (by rw [hl]; simp) hrel).mono ?_
  rintro e w' ⟨v,rfl,hr,hk⟩
  have hsr':=hsr.ext hk
  refine hR v w' ⟨_,h,⟨θ,M,hsr'.put hd (hback w' v hr) (Cy _ hres),⟨hk.size,fun b hb hn=>hk.same b hb (by omega),hk.os,hk.tape,hk.output⟩,fun _ _ _=>rfl,fun _ _ h _=>h⟩,by cases o.dst <;> rfl⟩
 have hval:∀ (i:Nat) (z:Operand),c.args.toList[i]?=some z→(c.args.map a.eval).getD i undef=a.eval z:=fun i z hz=>by
  have:c.args[i]?=some z:=by simpa using hz
  simp [Array.getD_eq_getD_getElem?,this]
 rcases hs with hs | hs
 ·refine main (Nu st θ M) (fun b hb=>hb.1) (fun i y hy=>?_) (fun w' v hr=>hr.scalar M w' hs) _ (fun v w' h=>h)
  obtain ⟨x,hx,hv⟩:=hg i y hy
  simp only [List.getElem?_map,Option.map_eq_some_iff] at hx
  obtain ⟨z,hz,rfl⟩:=hx
  rw [hval i z hz]
  exact (Kn hsr (M2:=Nu st θ M) (fun b hb=>hb.1) (fun n o hn hnil hb=>hb.2 ⟨n,o,hn,hnil,rfl⟩) (A0 hsr z) hv).1
 ·refine main M (fun _ h=>h) (fun i y hy=>?_) (fun _ _ h=>h) _ (fun v w' h=>h)
  rw [← hs] at hy
  simp only [List.getElem?_map,Option.map_eq_some_iff] at hy
  obtain ⟨z,hz,rfl⟩:=hy
  rw [hval i z hz]
  exact A0 hsr z
def St.init (args:List AV):St:={ t:=fun i=>args.getD i .undef,o:=fun _=>none }
def Gj (P:Program) (s:St):ResultVar→Option AV
 | .tmp i=>Gb s.o (s.t i)
 | .cell i ty=>match s.t i,(Ab P ty).agg with
  | .ptr n off,some g=>match s.o n with
   | some (.cells cs)=>(Ay g (Ab P ty).sz (cs.drop off)).bind (Gb s.o)
   | _=>none
  | _,_=>none
def Ea (P:Program) (s:St):List ResultVar→Option (List AV)
 | []=>some []
 | x :: r=>match Gj P s x,Ea P s r with | some y,some ys=>some (y :: ys) | _,_=>none
def Fz:List AV→AV
 | [x]=>x
 | l=>.tup l
def J7 (tmps:Array Value):ResultVar→Sem Value
 | .tmp t=>pure (tmps.getD t undef)
 | .cell c t=>do loadVar t (← asAddr (tmps.getD c undef))
theorem Pe (fn:Func) (tmps:Array Value):results fn tmps=(do let vs ← fn.results.mapM (J7 tmps); pure (if h:vs.size=1 then vs[0] else .tuple vs)):=by
 unfold results
 congr 1
theorem Acu (h:Av N B S θ M w st a) (hM:∀ b,M2 b→M b) (ho:L4 st θ M2) {x:ResultVar} {y:AV} (hy:Gj P st x=some y) :
  ∃ v,(J7 a.tmps x).run P w=.ok v w∧Ar θ M2 w y v∧y.isP=true:=by
 cases x with
 | tmp i=>exact ⟨a.tmps.getD i undef,rfl,Kn h hM ho (h.tm i) hy⟩
 | cell i ty=>
  simp only [Gj] at hy
  split at hy
  ·rename_i n off g hx hg
   split at hy
   ·rename_i cs hn
    obtain ⟨z,hz,hzy⟩:=Option.bind_eq_some_iff.1 hy
    have hv:=Jt (h.tm i) hx
    have hc:=(Mt h hn).drop off
    rw [Nat.zero_add] at hc
    obtain ⟨v,hr,hrel⟩:=hc.load hg hz
    exact ⟨v,by simp [J7,hv,asAddr,hr],Kn h hM ho hrel hzy⟩
   ·cases hy
  ·cases hy
theorem Mi (h:Av N B S θ M w st a) (hM:∀ b,M2 b→M b) (ho:L4 st θ M2):∀ {l:List ResultVar} {ys:List AV},Ea P st l=some ys →
  ∃ vs:List Value,(l.mapM (J7 a.tmps)).run P w=.ok vs w∧vs.length=ys.length ∧
   ∀ (i:Nat) (y:AV),ys[i]?=some y→Ar θ M2 w y (vs.getD i undef)∧y.isP=true
 | [],ys,hy=>by simp only [Ea,Option.some.injEq] at hy; subst hy; exact ⟨[],by simp,rfl,fun i y hy=>by simp at hy⟩
 | x :: r,ys,hy=>by
  simp only [Ea] at hy
  cases h1:Gj P st x with
  | none=>simp [h1] at hy
  | some y=>
   cases h2:Ea P st r with
   | none=>simp [h1,h2] at hy
   | some zs=>
    simp only [h1,h2,Option.some.injEq] at hy
    subst hy
    obtain ⟨v,hv,hvr⟩:=Acu h hM ho h1
    obtain ⟨vs,hvs,hl,hr⟩:=Mi h hM ho h2
    refine ⟨v :: vs,?_,by simp [hl],fun i z hz=>?_⟩
    ·simp only [List.mapM_cons,Sem.run_bind]
     rw [hv]
     simp only [Result.andThen_ok,hvs,Sem.run_pure]
    ·cases i with
     | zero=>simp at hz; subst hz; simpa using hvr
     | succ i=>simpa using hr i z (by simpa using hz)
theorem Yf {v q:List Nat} {f:FuncId} {fn:Func} {body:Code} {args:List AV} {res:AV} (hf:P.funcs[f]?=some fn) (hb:fn.body=some body) (hargs:args.all AV.isP=true)
  (h:AWP P ⟨⟨none,fun _=>False⟩,0,v,q⟩ fn.ntmps body (St.init args) (fun e s=>(e=.normal∨e=.ret)∧(Ea P s fn.results.toList).map Fz=some res)) (hres:res.isP=true):Bf P f args res:=by
 refine ⟨hres,fun θ M w vs hM hsz hrel=>?_⟩
 refine calls_of_wp hf hb ((wpIn_wide (n:=0)).1 ?_)
 have h0:Av fn.ntmps w.heap.size (fun _=>False) θ M w (St.init args) { tmps:=vs++Array.replicate (fn.ntmps - vs.size) undef,defers:=[] }:=by
  refine ⟨by simp; omega,fun i=>?_,fun n o hn=>by simp [St.init] at hn,fun n o hn=>by simp [St.init] at hn,fun n m hn=>by simp [St.init] at hn,Nat.le_refl _,hM,⟨fun i=>?_,fun m o hm=>by simp [St.init] at hm⟩⟩
  ·simp only [St.init]
   cases hx:args[i]? with
   | none=>simp only [List.getD,hx,Option.getD_none]; exact .undef _
   | some x=>
    have hlt:i < vs.size:=by rw [hsz]; exact (List.getElem?_eq_some_iff.1 hx).1
    have hr:=hrel i x hx
    simp only [List.getD,hx,Option.getD_some]
    have e1:(vs++Array.replicate (fn.ntmps - vs.size) undef).getD i undef=vs.getD i undef:=by
     simp [Array.getD_eq_getD_getElem?,Array.getElem?_append,hlt]
    rw [e1]; exact hr
  ·simp only [St.init]
   cases hx:args[i]? with
   | none=>simp only [List.getD,hx,Option.getD_none]; exact AV.lives_undef _
   | some x=>
    simp only [List.getD,hx,Option.getD_some]
    exact Cy _ (List.all_eq_true.1 hargs x (List.mem_of_getElem? hx))
 refine wpIn_mono (h _ _ θ M w _ h0) ?_
 rintro e a' w' ⟨ae,st',rfl,⟨hae,hr⟩,⟨θ',M',hs',hk,ht,hm⟩,hd⟩
 obtain ⟨ys,hys,rfl⟩:=Option.map_eq_some_iff.1 hr
 have hoth:L4 st' θ' M:=fun n o hn hnil hb=>by
  have h1:=(hs'.lv n o hn hnil).2
  have h2:=hM _ hb
  rcases h1 with h1 | h1
  ·omega
  ·exact h1
 obtain ⟨us,hus,hul,hur⟩:=Mi (P:=P) hs' (M2:=M) (fun b hb=>hm b (hM b hb) hb (fun h=>h)) hoth hys
 have hrun:∃ v,(results fn a'.tmps).run P w'=.ok v w'∧Ar θ' M w' (Fz ys) v:=by
  have hus':(fn.results.mapM (J7 a'.tmps)).run P w'=.ok us.toArray w':=by
   rw [Array.mapM_eq_mapM_toList,Sem.run_map,hus]; rfl
  rw [Pe]
  simp only [Sem.run_bind,hus',Result.andThen_ok,Sem.run_pure]
  match ys,us,hul with
  | [y],[u],_=>exact ⟨u,rfl,by simpa [Fz] using (hur 0 y (by simp)).1⟩
  | [],[],_=>exact ⟨.tuple #[],rfl,.tup [] #[] rfl (fun i x h=>by simp at h)⟩
  | y1 :: y2 :: ys',u1 :: u2 :: us',hul=>exact ⟨.tuple (u1 :: u2 :: us').toArray,rfl,.tup _ _ (by simpa using hul) (fun i x hx=>by simpa [Array.getD_eq_getD_getElem?] using (hur i x hx).1)⟩
 obtain ⟨v,hv,hvr⟩:=hrun
 have hpost:∃ v,(results fn a'.tmps).run P w'=.ok v w'∧∃ v',Ending.returned v=.returned v'∧Ar θ M w' (Fz ys) v'∧Bx (fun b=>w.heap.size≤b) w w':=
  ⟨v,hv,v,rfl,hvr.nameless θ hres,hk.mono (fun b hb=>hb.elim id False.elim)⟩
 rcases hae with rfl | rfl
 ·exact ⟨hd,hpost⟩
 ·exact ⟨hd,hpost⟩
end
def T:List (Nat × AV)→Nat→AV
 | [],_=>.undef
 | (j,x) :: l,i=>if i=j then x else T l i
def O:List (Nat × AO)→Nat→Option AO
 | [],_=>none
 | (j,x) :: l,i=>if i=j then some x else O l i
abbrev Hp (os:Nat→Option AO):St:=⟨fun _=>.undef,os⟩
abbrev a0:Act:={ tmps:=#[],defers:=[] }
def Ad8 (P:Program) (R:Value→World→Prop):Next→World→Prop
 | .enter f args,w=>Calls P f args w fun e w'=>∃ v,e=.returned v∧R v w'
 | .round l f tmps assign body,w=>RoundIn (Wd none) 0 P l f tmps assign body w fun e w'=>∃ v,e=.returned v∧R v w'
 | _,_=>False
def Inv (P:Program) (vf:Value) (vs:Array Value) (w:World) (R:Value→World→Prop):Prop:=
 ∃ nx,(do let d ← Deferred.ofValue vf vs; invoke d.target d.args).run P w=.ok nx w∧Ad8 P R nx w
def Wr (mv S:Nat→Prop) (bd:Nat) (θ:Nat→Loc) (M:Nat→Prop) (w:World) (R:AV→(Nat→Option AO)→Prop) (v:Value) (w':World):Prop:=
 ∃ res os' θ' M',R res os'∧Av 0 w.heap.size S θ' M' w' (Hp os') a0∧Ar θ' M' w' res v∧res.lives os'∧Bx (fun b=>w.heap.size≤b∨S b) w w'∧(∀ n,n < bd→¬ mv n→θ' n=θ n)∧(∀ b,b < w.heap.size→M b→¬ S b→M' b)
def Eo (P:Program) (mv:Nat→Prop) (bd:Nat) (fv:AV) (args:List AV) (os:Nat→Option AO) (R:AV→(Nat→Option AO)→Prop):Prop:=
 (∀ n,bd≤n→os n=none)→∀ (S:Nat→Prop) (θ:Nat→Loc) (M:Nat→Prop) (w:World) (vf:Value) (vs:Array Value),Av 0 w.heap.size S θ M w (Hp os) a0→Ar θ M w fv vf→vs.size=args.length →
  (∀ (i:Nat) (x:AV),args[i]?=some x→Ar θ M w x (vs.getD i undef))→fv.lives os→(∀ (i:Nat) (x:AV),args[i]?=some x→x.lives os)→Inv P vf vs w (Wr mv S bd θ M w R)
abbrev Bm (P:Program) (bd:Nat) (fv:AV) (args:List AV) (os:Nat→Option AO) (R:AV→(Nat→Option AO)→Prop):Prop:=Eo P (fun _=>False) bd fv args os R
theorem Ad8.mono {P:Program} {R R':Value→World→Prop} (hr:∀ v w',R v w'→R' v w'):∀ {nx:Next} {w:World},Ad8 P R nx w→Ad8 P R' nx w
 | .enter _ _,_,h=>Calls.mono h (fun _ _ ⟨v,h1,h2⟩=>⟨v,h1,hr _ _ h2⟩)
 | .round _ _ _ _ _,_,h=>RoundIn.mono h (fun _ _ ⟨v,h1,h2⟩=>⟨v,h1,hr _ _ h2⟩)
theorem Inv.mono {P:Program} {R R':Value→World→Prop} {vf:Value} {vs:Array Value} {w:World} (h:Inv P vf vs w R) (hr:∀ v w',R v w'→R' v w'):Inv P vf vs w R':=
 let ⟨nx,h1,h2⟩:=h; ⟨nx,h1,h2.mono hr⟩
theorem Eo.mono {P:Program} {mv:Nat→Prop} {bd:Nat} {fv:AV} {args:List AV} {os:Nat→Option AO} {R R':AV→(Nat→Option AO)→Prop} (h:Eo P mv bd fv args os R) (hr:∀ x os',R x os'→R' x os'):Eo P mv bd fv args os R':=
 fun hb S θ M w vf vs h1 h2 h3 h4 h5 h6=>(h hb S θ M w vf vs h1 h2 h3 h4 h5 h6).mono fun _ _ ⟨res,os',θ',M',g1,g2⟩=>⟨res,os',θ',M',hr _ _ g1,g2⟩
theorem Ar.congr {θ θ':Nat→Loc} {M:Nat→Prop} {w:World} {x:AV} {v:Value} (h:Ar θ M w x v):(∀ n,x.clean n=false→θ' n=θ n)→Ar θ' M w x v:=by
 induction h with
 | p x v h=>exact fun _=>.p x v h
 | ptr m off=>intro hc; have:=Ar.ptr (θ:=θ') (M:=M) (w:=w) m off; rwa [hc m (by simp [AV.clean])] at this
 | eptr m k i off=>intro hc; have:=Ar.eptr (θ:=θ') (M:=M) (w:=w) m k i off; rwa [hc m (by simp [AV.clean])] at this
 | own m len h0 h=>
  intro hc
  have e:θ' m=θ m:=hc m (by simp [AV.clean])
  have:=Ar.own (θ:=θ') (M:=M) (w:=w) m len (by rw [e]; exact h0) (by rw [e]; exact h)
  rwa [e] at this
 | ownNil m h0=>
  intro hc
  have e:θ' m=θ m:=hc m (by simp [AV.clean])
  exact .ownNil m (by rw [e]; exact h0)
 | csl m off k len cap h=>intro hc; have:=Ar.csl (θ:=θ') (M:=M) (w:=w) m off k len cap h; rwa [hc m (by simp [AV.clean])] at this
 | fn f fs cs vf vc hf hc _ _ ih1 ih2=>
  intro h
  refine .fn f fs cs vf vc hf hc (fun i x hx=>ih1 i x hx fun n hn=>h n ?_) (fun i x hx=>ih2 i x hx fun n hn=>h n ?_)
  ·simp only [AV.clean,Bool.and_eq_false_iff]
   refine .inl ?_
   cases hl:AV.clean.cleanL n fs with
   | false=>rfl
   | true=>have:=(B0 n fs).1 hl i x hx; rw [this] at hn; cases hn
  ·simp only [AV.clean,Bool.and_eq_false_iff]
   refine .inr ?_
   cases hl:AV.clean.cleanL n cs with
   | false=>rfl
   | true=>have:=(B0 n cs).1 hl i x hx; rw [this] at hn; cases hn
 | yld m=>intro hc; have:=Ar.yld (θ:=θ') (M:=M) (w:=w) m; rwa [hc m (by simp [AV.clean])] at this
 | mp m=>intro hc; have:=Ar.mp (θ:=θ') (M:=M) (w:=w) m; rwa [hc m (by simp [AV.clean])] at this
 | agg cs vs hs ho _ ih=>
  intro h
  refine .agg cs vs hs ho fun i x hx=>ih i x hx fun n hn=>h n ?_
  simp only [AV.clean]
  cases hl:AV.clean.cleanL n cs with
  | false=>rfl
  | true=>have:=(B0 n cs).1 hl i x hx; rw [this] at hn; cases hn
 | tup cs vs hs _ ih=>
  intro h
  refine .tup cs vs hs fun i x hx=>ih i x hx fun n hn=>h n ?_
  simp only [AV.clean]
  cases hl:AV.clean.cleanL n cs with
  | false=>rfl
  | true=>have:=(B0 n cs).1 hl i x hx; rw [this] at hn; cases hn
 | undef v=>exact fun _=>.undef v
section
variable {P:Program} {r:RB} {N B:Nat} {S:Nat→Prop} {θ:Nat→Loc} {M:Nat→Prop} {w:World} {st:St} {a:Act} {o:Oper}
theorem Av.hp (h:Av N B S θ M w st a) {os':Nat→Option AO} (hs:∀ n,os' n=none∨os' n=st.o n) (hc:(Hp os').closed):Av 0 B S θ M w (Hp os') a0:=by
 have h1:=h.weaken (s1:=Hp os') ⟨fun _=>.inl rfl,hs,hc⟩
 exact ⟨Nat.zero_le _,fun _=>.undef _,h1.ob,h1.lv,h1.inj,h1.base,h1.mlt,h1.cl⟩
def Ae0 (st:St) (θ:Nat→Loc):Nat→Prop:=fun b=>∃ n o,st.o n=some o∧(θ n).nil=false∧(θ n).blk=b
theorem Av.toHp (h:Av N B S θ M w st a):Av 0 w.heap.size (Ae0 st θ) θ M w (Hp st.o) a0:=
 ⟨Nat.zero_le _,fun _=>.undef _,h.ob,fun n o hn hnil=>⟨(h.lv n o hn hnil).1,.inr ⟨n,o,hn,hnil,rfl⟩⟩,h.inj,Nat.le_refl _,h.mlt,⟨fun _=>AV.lives_undef _,h.cl.2⟩⟩
theorem Av.back (h:Av N B S θ M w st a) {S1:Nat→Prop} (hS1:∀ b,S1 b→M b∧(B≤b∨S b)) {os':Nat→Option AO} {θ':Nat→Loc} {M':Nat→Prop} {w':World} (h':Av 0 w.heap.size S1 θ' M' w' (Hp os') a0) (hk:Bx (fun b=>w.heap.size≤b∨S1 b) w w')
  {t':Nat→AV} (ht:∀ i,t' i=.undef∨(t' i=st.t i∧∀ n,(st.t i).clean n=false→θ' n=θ n)) (hl:∀ i,(t' i).lives os'):Av N B S θ' (fun b=>M' b∧(b < w.heap.size→M b)) w' ⟨t',os'⟩ a:=by
 have hsame:∀ b,b < w.heap.size→¬ M b→w'.heap[b]?=w.heap[b]?:=fun b hb hm=>hk.same b hb (fun e=>e.elim (fun e=>by omega) (fun e=>hm (hS1 b e).1))
 refine ⟨h.size,fun i=>?_,fun n o hn=>?_,fun n o hn hnil=>?_,h'.inj,Nat.le_trans h.base hk.size,fun b hb=>h'.mlt b hb.1,⟨hl,h'.cl.2⟩⟩
 ·rcases ht i with e | ⟨e,hst⟩
  ·show Ar _ _ _ (t' i) _
   rw [e]; exact .undef _
  ·show Ar _ _ _ (t' i) _
   rw [e]
   exact ((h.tm i).mono hsame (fun b hb hm=>hm.2 hb)).congr hst
 ·exact (h'.ob n o hn).mono (fun _=>rfl) (fun x v hr _=>hr.mono (fun _ _ _=>rfl) (fun _ _ hm=>hm.1)) (fun x v hp=>hp.mono (fun _ _ _=>rfl) (fun _ _ hm=>hm.1))
 ·obtain ⟨h1,h2⟩:=h'.lv n o hn hnil
  rcases h2 with h2 | h2
  ·exact ⟨⟨h1,fun hlt=>by omega⟩,.inl (Nat.le_trans h.base h2)⟩
  ·exact ⟨⟨h1,fun _=>(hS1 _ h2).1⟩,(hS1 _ h2).2⟩
theorem Tr {c:Call} {g:Operand} (ho:o.op=.call c) (hc:c.callee=.value g):(execOp a.eval o).run P w=(do let d ← Deferred.ofValue (a.eval g) (c.args.map a.eval); invoke d.target d.args).run P w:=by
 simp [execOp,ho,hc,resolve]
theorem Bm.mono {P:Program} {bd:Nat} {fv:AV} {args:List AV} {os:Nat→Option AO} {R R':AV→(Nat→Option AO)→Prop} (h:Bm P bd fv args os R) (hr:∀ x os',R x os'→R' x os'):Bm P bd fv args os R':=Eo.mono h hr
def AV.stays (mv:Nat→Prop) (x:AV):Prop:=∀ n,mv n→x.clean n=true
theorem L6 {K:St→Prop} {c:Call} {g:Operand} {mv:Nat→Prop} {bd:Nat} {R:AV→(Nat→Option AO)→Prop} (ho:o.op=.call c) (hd:∀ k,o.dst=some k→k < N) (hc:c.callee=.value g)
  (hcall:Eo P mv bd (ev st.t g) (c.args.toList.map (ev st.t)) st.o R) (hbd:∀ n,bd≤n→st.o n=none) (hb:r.b≤bd) (hmv:∀ n,mv n→r.mv n∨r.b≤n)
  (h:∀ res os',R res os'→(Hp os').closed→res.lives os'→∃ t',(∀ i,t' i=.undef∨(t' i=st.t i∧(st.t i).stays mv))∧(∀ i,(t' i).lives os')∧K (St.put ⟨t',os'⟩ o.dst res)):D1 P r N o st K:=by
 intro B S θ M w a Q hsr
 refine ⟨fun _ _=>trivial,?_⟩
 rw [Oper.semAt_eq _ _ _ (by rw [ho]; intro c h; cases h),Tr ho hc]
 have hargs:∀ (i:Nat) (x:AV),(c.args.toList.map (ev st.t))[i]?=some x→Ar θ M w x ((c.args.map a.eval).getD i undef)∧x.lives st.o:=fun i x hx=>by
  simp only [List.getElem?_map,Option.map_eq_some_iff] at hx
  obtain ⟨z,hz,rfl⟩:=hx
  have:c.args[i]?=some z:=by simpa using hz
  have e:(c.args.map a.eval).getD i undef=a.eval z:=by simp [Array.getD_eq_getD_getElem?,this]
  rw [e]
  exact ⟨A0 hsr z,Cr hsr z⟩
 obtain ⟨nx,hrun,hruns⟩:=hcall hbd (Ae0 st θ) θ M w (a.eval g) (c.args.map a.eval) hsr.toHp (A0 hsr g) (by simp) (fun i x hx=>(hargs i x hx).1) (Cr hsr g) (fun i x hx=>(hargs i x hx).2)
 rw [hrun]
 have fin:∀ v w',Wr mv (Ae0 st θ) bd θ M w R v w'→∃ st',K st'∧Fin r N B S θ M w a st' (a.put o.dst v) w':=by
  rintro v w' ⟨res,os',θ',M',hR,hS,hres,hlv,hk,hth,hM⟩
  obtain ⟨t',ht,hl,hK⟩:=h res os' hR hS.cl hlv
  have hS1:∀ b,Ae0 st θ b→M b∧(B≤b∨S b):=by
   rintro b ⟨n,o,hn,hnil,rfl⟩
   exact hsr.lv n o hn hnil
  have hback:=hsr.back hS1 hS hk (t':=t') (fun i=>(ht i).imp id (fun e=>⟨e.1,fun n hn=>hth n (by
   have h1:=hsr.cl.1 i n hn
   cases Nat.lt_or_ge n bd with
   | inl h=>exact h
   | inr h=>rw [hbd n h] at h1; cases h1) (fun hm=>by rw [e.2 n hm] at hn; cases hn)⟩)) hl
  refine ⟨_,hK,⟨θ',_,hback.put hd (hres.mono (fun _ _ _=>rfl) (fun _ _ hm=>hm.1)) hlv,?_,fun n hn hv=>hth n (by omega) (fun hm=>(hmv n hm).elim hv (fun h=>by omega)),fun b hb hm hn=>⟨hM b (Nat.lt_of_lt_of_le hb hsr.base) hm (fun h=>(hS1 b h).2.elim (fun e=>by omega) hn),fun _=>hm⟩⟩,by cases o.dst <;> rfl⟩
  exact hk.mono (fun b hb=>hb.elim (fun e=>.inl (Nat.le_trans hsr.base e)) (fun e=>(hS1 b e).2))
 cases nx with
 | enter f args=>
  rw [Oper.uponIn_enter]
  refine ⟨fun h=>by simp [Wd] at h,Du (Calls.mono hruns ?_)⟩
  rintro e w' ⟨v,rfl,hp⟩
  exact fin v w' hp
 | round l f tmps assign body=>
  rw [Oper.uponIn_round]
  refine ⟨fun h=>by simp [Wd] at h,?_⟩
  have h1:RoundIn (Wd r.rd) 0 P l f tmps assign body w fun e w'=>∃ v,e=.returned v∧Wr mv (Ae0 st θ) bd θ M w R v w':=hruns
  refine RoundIn.mono h1 ?_
  rintro e w' ⟨v,rfl,hp⟩
  exact fin v w' hp
 | _=>exact hruns.elim
theorem Z7 {K:St→Prop} {c:Call} {g:Operand} {bd:Nat} {R:AV→(Nat→Option AO)→Prop} (ho:o.op=.call c) (hd:∀ k,o.dst=some k→k < N) (hc:c.callee=.value g)
  (hcall:Bm P bd (ev st.t g) (c.args.toList.map (ev st.t)) st.o R) (hbd:∀ n,bd≤n→st.o n=none) (hb:r.b≤bd)
  (h:∀ res os',R res os'→(Hp os').closed→res.lives os'→∃ t',(∀ i,t' i=.undef∨t' i=st.t i)∧(∀ i,(t' i).lives os')∧K (St.put ⟨t',os'⟩ o.dst res)):D1 P r N o st K:=
 L6 ho hd hc hcall hbd hb (fun _ h=>h.elim) fun res os' h1 h2 h3=>by
  obtain ⟨t',g1,g2,g3⟩:=h res os' h1 h2 h3
  exact ⟨t',fun i=>(g1 i).imp id (fun e=>⟨e,fun _ hm=>hm.elim⟩),g2,g3⟩
end
def Yx (P:Program) (s:St):ResultVar→Option AV
 | .tmp i=>some (s.t i)
 | .cell i ty=>match s.t i,(Ab P ty).agg with
  | .ptr n off,some g=>match s.o n with
   | some (.cells cs)=>Ay g (Ab P ty).sz (cs.drop off)
   | _=>none
  | _,_=>none
def Gr (P:Program) (s:St):List ResultVar→Option (List AV)
 | []=>some []
 | x :: r=>match Yx P s x,Gr P s r with | some y,some ys=>some (y :: ys) | _,_=>none
def Zf (P:Program) (rs:List ResultVar) (R:AV→(Nat→Option AO)→Prop) (s:St):Prop:=
 ∃ res os',(Gr P s rs).map Fz=some res∧(∀ n,os' n=none∨os' n=s.o n)∧(Hp os').closed∧res.lives os'∧R res os'
def Agd (P:Program) (rs:List ResultVar) (R:AV→(Nat→Option AO)→Prop):AEx→St→Prop
 | .normal,s=>Zf P rs R s
 | .ret,s=>Zf P rs R s
 | .exit _,_=>False
section
variable {P:Program} {r:RB} {N B:Nat} {S:Nat→Prop} {θ:Nat→Loc} {M:Nat→Prop} {w:World} {st:St} {a:Act} {o:Oper}
theorem Abj (h:Av N B S θ M w st a) {x:ResultVar} {y:AV} (hy:Yx P st x=some y):∃ v,(J7 a.tmps x).run P w=.ok v w∧Ar θ M w y v:=by
 cases x with
 | tmp i=>cases hy; exact ⟨a.tmps.getD i undef,rfl,h.tm i⟩
 | cell i ty=>
  simp only [Yx] at hy
  split at hy
  ·rename_i n off g hx hg
   split at hy
   ·rename_i cs hn
    have hv:=Jt (h.tm i) hx
    have hc:=(Mt h hn).drop off
    rw [Nat.zero_add] at hc
    obtain ⟨v,hr,hrel⟩:=hc.load hg hy
    exact ⟨v,by simp [J7,hv,asAddr,hr],hrel⟩
   ·cases hy
  ·cases hy
theorem Sf (h:Av N B S θ M w st a):∀ {l:List ResultVar} {ys:List AV},Gr P st l=some ys →
  ∃ vs:List Value,(l.mapM (J7 a.tmps)).run P w=.ok vs w∧vs.length=ys.length∧∀ (i:Nat) (y:AV),ys[i]?=some y→Ar θ M w y (vs.getD i undef)
 | [],ys,hy=>by simp only [Gr,Option.some.injEq] at hy; subst hy; exact ⟨[],by simp,rfl,fun i y hy=>by simp at hy⟩
 | x :: r,ys,hy=>by
  simp only [Gr] at hy
  cases h1:Yx P st x with
  | none=>simp [h1] at hy
  | some y=>
   cases h2:Gr P st r with
   | none=>simp [h1,h2] at hy
   | some zs=>
    simp only [h1,h2,Option.some.injEq] at hy
    subst hy
    obtain ⟨v,hv,hvr⟩:=Abj h h1
    obtain ⟨vs,hvs,hl,hr⟩:=Sf h h2
    refine ⟨v :: vs,?_,by simp [hl],fun i z hz=>?_⟩
    ·simp only [List.mapM_cons,Sem.run_bind]
     rw [hv]
     simp only [Result.andThen_ok,hvs,Sem.run_pure]
    ·cases i with
     | zero=>simp at hz; subst hz; simpa using hvr
     | succ i=>simpa using hr i z (by simpa using hz)
theorem Ws (h:Av N B S θ M w st a) {fn:Func} {res:AV} (hr:(Gr P st fn.results.toList).map Fz=some res):∃ v,(results fn a.tmps).run P w=.ok v w∧Ar θ M w res v:=by
 obtain ⟨ys,hys,rfl⟩:=Option.map_eq_some_iff.1 hr
 obtain ⟨us,hus,hul,hur⟩:=Sf h hys
 have hus':(fn.results.mapM (J7 a.tmps)).run P w=.ok us.toArray w:=by
  rw [Array.mapM_eq_mapM_toList,Sem.run_map,hus]; rfl
 rw [Pe]
 simp only [Sem.run_bind,hus',Result.andThen_ok,Sem.run_pure]
 match ys,us,hul with
 | [y],[u],_=>exact ⟨u,rfl,by simpa [Fz] using hur 0 y (by simp)⟩
 | [],[],_=>exact ⟨.tuple #[],rfl,.tup [] #[] rfl (fun i x h=>by simp at h)⟩
 | y1 :: y2 :: ys',u1 :: u2 :: us',hul=>exact ⟨.tuple (u1 :: u2 :: us').toArray,rfl,.tup _ _ (by simpa using hul) (fun i x hx=>by simpa [Array.getD_eq_getD_getElem?] using hur i x hx)⟩
theorem Av.start {fn:Func} {os:Nat→Option AO} {args:List AV} {vs:Array Value} (h:Av 0 B S θ M w (Hp os) a0) (hsz:vs.size=args.length) (hrel:∀ (i:Nat) (x:AV),args[i]?=some x→Ar θ M w x (vs.getD i undef)) (hl:∀ (i:Nat) (x:AV),args[i]?=some x→x.lives os) :
  Av fn.ntmps B S θ M w ⟨fun i=>args.getD i .undef,os⟩ { tmps:=vs++Array.replicate (fn.ntmps - vs.size) undef,defers:=[] }:=by
 refine ⟨by simp; omega,fun i=>?_,h.ob,h.lv,h.inj,h.base,h.mlt,⟨fun i=>?_,h.cl.2⟩⟩
 ·show Ar _ _ _ (args.getD i .undef) _
  cases hx:args[i]? with
  | none=>simp only [List.getD,hx,Option.getD_none]; exact .undef _
  | some x=>
   have hlt:i < vs.size:=by rw [hsz]; exact (List.getElem?_eq_some_iff.1 hx).1
   have hr:=hrel i x hx
   simp only [List.getD,hx,Option.getD_some]
   have e1:(vs++Array.replicate (fn.ntmps - vs.size) undef).getD i undef=vs.getD i undef:=by
    simp [Array.getD_eq_getD_getElem?,Array.getElem?_append,hlt]
   rw [e1]; exact hr
 ·show (args.getD i .undef).lives os
  cases hx:args[i]? with
  | none=>simp only [List.getD,hx,Option.getD_none]; exact AV.lives_undef _
  | some x=>simp only [List.getD,hx,Option.getD_some]; exact hl i x hx
theorem Eh {f:FuncId} {vfs vcs vs:Array Value} (hf:Bs P f=true):(do let d ← Deferred.ofValue (.func (.func f) vfs vcs) vs; invoke d.target d.args).run P w=.ok (.enter f (vfs++vs++vcs)) w:=by
 unfold Bs at hf
 cases hfn:P.funcs[f]? with
 | none=>simp [hfn] at hf
 | some fn=>
  simp only [hfn,Bool.and_eq_true,Bool.not_eq_true',beq_eq_false_iff_ne] at hf
  obtain ⟨bd,hb⟩:=Option.isSome_iff_exists.1 hf.2
  simp [Deferred.ofValue,invoke,callFunc,hfn,hf.1,hb]
theorem Rq {vfs vs vcs:Array Value} {fs args cs:List AV} (h1:vfs.size=fs.length) (h2:vs.size=args.length) (h3:vcs.size=cs.length)
  (g1:∀ (i:Nat) (x:AV),fs[i]?=some x→Ar θ M w x (vfs.getD i undef)) (g2:∀ (i:Nat) (x:AV),args[i]?=some x→Ar θ M w x (vs.getD i undef)) (g3:∀ (i:Nat) (x:AV),cs[i]?=some x→Ar θ M w x (vcs.getD i undef)) :
  (vfs++vs++vcs).size=(fs++args++cs).length∧∀ (i:Nat) (x:AV),(fs++args++cs)[i]?=some x→Ar θ M w x ((vfs++vs++vcs).getD i undef):=by
 refine ⟨by simp [h1,h2,h3],fun i x hx=>?_⟩
 rw [List.getElem?_append] at hx
 split at hx
 ·rename_i hi
  rw [List.getElem?_append] at hx
  split at hx
  ·rename_i hi2
   have:=g1 i x hx
   rw [Array.getD_eq_getD_getElem?] at this ⊢
   rw [Array.getElem?_append,if_pos (by simp; omega),Array.getElem?_append,if_pos (by omega)]
   exact this
  ·rename_i hi2
   have:=g2 _ x hx
   rw [Array.getD_eq_getD_getElem?] at this ⊢
   rw [Array.getElem?_append,if_pos (by simp at hi ⊢; omega),Array.getElem?_append,if_neg (by omega),h1]
   exact this
 ·rename_i hi
  have:=g3 _ x hx
  rw [Array.getD_eq_getD_getElem?] at this ⊢
  rw [Array.getElem?_append,if_neg (by simp at hi ⊢; omega)]
  simp only [List.length_append] at this
  simp only [Array.size_append,h1,h2]
  exact this
theorem F6 {os:Nat→Option AO} {f:Fn} {fs cs:List AV} (h:(AV.fn f fs cs).lives os):(∀ (i:Nat) (x:AV),fs[i]?=some x→x.lives os)∧∀ (i:Nat) (x:AV),cs[i]?=some x→x.lives os:=by
 refine ⟨fun i x hx n hn=>h n ?_,fun i x hx n hn=>h n ?_⟩
 ·simp only [AV.clean,Bool.and_eq_false_iff]
  refine .inl ?_
  cases hl:AV.clean.cleanL n fs with
  | false=>rfl
  | true=>have:=(B0 n fs).1 hl i x hx; rw [this] at hn; cases hn
 ·simp only [AV.clean,Bool.and_eq_false_iff]
  refine .inr ?_
  cases hl:AV.clean.cleanL n cs with
  | false=>rfl
  | true=>have:=(B0 n cs).1 hl i x hx; rw [this] at hn; cases hn
theorem Us {os:Nat→Option AO} {fs args cs:List AV} (h1:∀ (i:Nat) (x:AV),fs[i]?=some x→x.lives os) (h2:∀ (i:Nat) (x:AV),args[i]?=some x→x.lives os) (h3:∀ (i:Nat) (x:AV),cs[i]?=some x→x.lives os) :
  ∀ (i:Nat) (x:AV),(fs++args++cs)[i]?=some x→x.lives os:=by
 intro i x hx
 rcases List.mem_append.1 (List.mem_of_getElem? hx) with hm | hm
 ·rcases List.mem_append.1 hm with hm | hm
  ·obtain ⟨j,hj⟩:=List.mem_iff_getElem?.1 hm; exact h1 j x hj
  ·obtain ⟨j,hj⟩:=List.mem_iff_getElem?.1 hm; exact h2 j x hj
 ·obtain ⟨j,hj⟩:=List.mem_iff_getElem?.1 hm; exact h3 j x hj
theorem Ys {mv:Nat→Prop} {f:FuncId} {fn:Func} {body:Code} {bd:Nat} {v q:List Nat} {fs args cs:List AV} {os:Nat→Option AO} {R:AV→(Nat→Option AO)→Prop} (hf:P.funcs[f]?=some fn) (hb:fn.body=some body) (hcal:Bs P f=true)
  (h:(Hp os).closed→(∀ n,bd≤n→os n=none)→AWP P ⟨⟨none,mv⟩,bd,v,q⟩ fn.ntmps body ⟨fun i=>(fs++args++cs).getD i .undef,os⟩ (Agd P fn.results.toList R)):Eo P mv bd (.fn (.func f) fs cs) args os R:=by
 intro hfree S θ M w vf vs hH hfv hsz hargs hlf hla
 cases hfv with
 | fn _ _ _ vfs vcs h1 h2 g1 g2=>
  refine ⟨_,Eh hcal,?_⟩
  obtain ⟨e1,e2⟩:=Rq h1 hsz h2 g1 hargs g2
  obtain ⟨l1,l2⟩:=F6 hlf
  have h0:=hH.start (fn:=fn) e1 e2 (Us l1 hla l2)
  refine calls_of_wp hf hb ((wpIn_wide (n:=0)).1 ?_)
  refine wpIn_mono (h hH.cl hfree _ S θ M w _ h0) ?_
  rintro e a' w' ⟨ae,st',rfl,hr,⟨θ',M',hs',hk,ht,hm⟩,hd⟩
  have key:Zf P fn.results.toList R st'→a'.defers=[]∧∃ v,(results fn a'.tmps).run P w'=.ok v w'∧∃ v',Ending.returned v=.returned v'∧Wr mv S bd θ M w R v' w':=by
   rintro ⟨res,os',hrr,hsub,hcl,hlv,hR⟩
   obtain ⟨v,hv,hvr⟩:=Ws hs' hrr
   exact ⟨hd,v,hv,v,rfl,res,os',θ',M',hR,hs'.hp hsub hcl,hvr,hlv,hk,ht,hm⟩
  cases ae with
  | normal=>exact key hr
  | ret=>exact key hr
  | exit i=>exact hr.elim
theorem M9 {f:FuncId} {bd:Nat} {fs args cs:List AV} {os:Nat→Option AO} {res:AV} (hcal:Bs P f=true) (h:Bf P f (fs++args++cs) res):Bm P bd (.fn (.func f) fs cs) args os fun x os'=>x=res∧os'=os:=by
 intro hfree S θ M w vf vs hH hfv hsz hargs hlf hla
 cases hfv with
 | fn _ _ _ vfs vcs h1 h2 g1 g2=>
  refine ⟨_,Eh hcal,?_⟩
  obtain ⟨e1,e2⟩:=Rq h1 hsz h2 g1 hargs g2
  refine Calls.mono (h.2 θ M w _ hH.mlt e1 e2) ?_
  rintro e w' ⟨v,rfl,hr,hk⟩
  have hH':=hH.ext hk
  exact ⟨v,rfl,res,os,θ,M,⟨rfl,rfl⟩,hH',hr,Cy _ h.1,hk.mono (fun _ hb=>.inl hb),fun _ _ _=>rfl,fun _ _ h _=>h⟩
end
theorem Bbh (j:Nat) (x:AV) (l:List (Nat × AV)) (i:Nat):T ((j,x) :: l) i=if i=j then x else T l i:=rfl
theorem Ps (l:List (Nat × AV)) (i:Nat):T l i=.undef∨∃ k:Nat,l[k]?=some (i,T l i):=by
 induction l with
 | nil=>exact .inl rfl
 | cons p r ih=>
  obtain ⟨j,x⟩:=p
  rw [Bbh]
  split
  ·rename_i h; subst h; exact .inr ⟨0,rfl⟩
  ·rcases ih with h | ⟨k,h⟩
   ·exact .inl h
   ·exact .inr ⟨k+1,h⟩
def Pt (ps:List Nat) (args:List AV) (t:Nat→AV):Nat→AV:=(ps.zip args).foldl (fun t p=>upd t p.1 p.2) t
def Ml (nl:Nat) (k:D3) (tm:List (Nat × AV)) (R:AV→(Nat→Option AO)→Prop) (jump:Option Code) (s:St):Prop:=
 s.o nl=some (.loop { k with state:=.busy } tm)∧∃ os',(∀ n,os' n=none∨os' n=upd s.o nl (some (.loop { k with state:=if jump.isNone then .ready else .done,pending:=jump } tm)) n)∧(Hp os').closed∧R (.p (.val (.bool jump.isNone))) os'
def Rl (nl:Nat) (k:D3) (tm:List (Nat × AV)) (R:AV→(Nat→Option AO)→Prop):AEx→St→Prop
 | .normal,s=>Ml nl k tm R none s
 | .ret,s=>Ml nl k tm R (some .ret) s
 | .exit i,s=>Ml nl k tm R (some (.exit i)) s
section
variable {P:Program} {r:RB} {N B:Nat} {S:Nat→Prop} {θ:Nat→Loc} {M:Nat→Prop} {w:World} {st:St} {a:Act} {o:Oper} {nl:Nat} {k:D3} {tm:List (Nat × AV)}
theorem Av.loopAt (h:Av N B S θ M w st a) (hn:st.o nl=some (.loop k tm)):(θ nl).nil=false∧∃ r:Loop,w.heap[(θ nl).blk]?=some (.loop r)∧r.state=k.state∧r.pending=k.pending∧r.params=k.ps.toArray∧r.assign=k.assign∧r.body=k.body∧k.n≤r.tmps.size ∧
  ∀ (i:Nat) (p:Nat × AV),tm[i]?=some p→Ar θ M w p.2 (r.tmps.getD p.1 undef):=by
 obtain ⟨h0,fn,tmps,D,h1,h2,h3⟩:=h.ob nl _ hn
 exact ⟨h0,_,h1,rfl,rfl,rfl,rfl,rfl,h2,h3⟩
theorem Av.loopPut (h:Av N B S θ M w st a) (hn:st.o nl=some (.loop k tm)) {rec:Loop} (hr:w.heap[(θ nl).blk]?=some (.loop rec)) (s':LoopState) (pd:Option Code) :
  Av N B S θ M (w.putObj (θ nl).blk (.loop { rec with state:=s',pending:=pd })) (st.setO nl (.loop { k with state:=s',pending:=pd } tm)) a∧Bx (fun b=>B≤b∨S b) w (w.putObj (θ nl).blk (.loop { rec with state:=s',pending:=pd })):=by
 obtain ⟨h0,fn,tmps,D,h1,h2,h3⟩:=h.ob nl _ hn
 have hlt:(θ nl).blk < w.heap.size:=h.mlt _ (h.lv nl _ hn h0).1
 have hMn:M (θ nl).blk:=(h.lv nl _ hn h0).1
 have hk:∀ b,b≠(θ nl).blk→(w.putObj (θ nl).blk (.loop { rec with state:=s',pending:=pd })).heap[b]?=w.heap[b]?:=fun b hb=>World.putObj_heap_other hb
 rw [h1] at hr
 cases hr
 refine ⟨h.upd hn h0 (by simp) hk ⟨h0,fn,tmps,D,World.putObj_heap_same hlt,h2,fun i p hp=>(h3 i p hp).mono (fun b _ hm=>hk b (fun e=>hm (e ▸ hMn))) (fun _ _ h=>h)⟩ ?_,Bx.of_upd h hn h0 (by simp) hk rfl rfl rfl⟩
 have:=h.cl.2 nl _ hn
 rw [AO.lives_loop] at this ⊢
 exact this
theorem U3:∀ {ps:List Nat} {args:List AV} {vs:List Value} {t:Nat→AV} {tmps:Array Value},(∀ i,Ar θ M w (t i) (tmps.getD i undef))→vs.length=args.length→(∀ (i:Nat) (x:AV),args[i]?=some x→Ar θ M w x (vs.getD i undef))→(∀ p ∈ ps,p < tmps.size) →
  (∀ i,Ar θ M w (Pt ps args t i) (((ps.zip vs).foldl (fun tmps (p:Nat × Value)=>tmps.setIfInBounds p.1 p.2) tmps).getD i undef))∧((ps.zip vs).foldl (fun tmps (p:Nat × Value)=>tmps.setIfInBounds p.1 p.2) tmps).size=tmps.size
 | [],_,_,_,_,h,_,_,_=>⟨h,rfl⟩
 | p :: ps,[],[],_,_,h,_,_,_=>⟨h,rfl⟩
 | p :: ps,x :: args,v :: vs,t,tmps,h,hl,hr,hp=>by
  have hs:(tmps.setIfInBounds p v).size=tmps.size:=by simp
  have:=U3 (ps:=ps) (args:=args) (vs:=vs) (t:=upd t p x) (tmps:=tmps.setIfInBounds p v) (fun i=>?_) (by simpa using hl) (fun i y hy=>by simpa using hr (i+1) y (by simpa using hy)) (fun q hq=>by rw [hs]; exact hp q (by simp [hq]))
  ·rw [hs] at this; exact this
  ·rw [Y9]
   by_cases e:i=p
   ·subst e
    rw [if_pos ⟨rfl,hp i (by simp)⟩,Dm]
    simpa using hr 0 x rfl
   ·rw [if_neg (fun h=>e h.1),Ao e]
    exact h i
 | p :: ps,[],_ :: _,_,_,_,hl,_,_=>by simp at hl
 | p :: ps,_ :: _,[],_,_,_,hl,_,_=>by simp at hl
theorem Qb {os:Nat→Option AO}:∀ {ps:List Nat} {args:List AV} {t:Nat→AV},(∀ i,(t i).lives os)→(∀ (i:Nat) (x:AV),args[i]?=some x→x.lives os)→∀ i,(Pt ps args t i).lives os
 | [],_,_,h,_,i=>h i
 | p :: ps,[],_,h,_,i=>h i
 | p :: ps,x :: args,t,h,hr,i=>Qb (ps:=ps) (args:=args) (t:=upd t p x) (fun j=>by
   by_cases e:j=p
   ·subst e; rw [Dm]; exact hr 0 x rfl
   ·rw [Ao e]; exact h j) (fun j y hy=>hr (j+1) y (by simpa using hy)) i
theorem R5 {mv:Nat→Prop} (hmv:¬ mv nl) {bd:Nat} {v q:List Nat} {os:Nat→Option AO} {args:List AV} {R:AV→(Nat→Option AO)→Prop} (hos:os nl=some (.loop k tm)) (hst:k.state=.ready) (hlen:args.length=k.ps.length) (hps:∀ p ∈ k.ps,p < k.n)
  (h:(Hp os).closed→(∀ n,bd≤n→os n=none)→∀ l,AWP P ⟨⟨some l,mv⟩,bd,v,q⟩ k.n k.assign ⟨Pt k.ps args (T tm),os⟩ (H7 (fun s=>s.o nl=some (.loop k tm)∧AWP P ⟨⟨some l,mv⟩,bd,v,q⟩ k.n k.body ⟨s.t,upd s.o nl (some (.loop { k with state:=.busy } tm))⟩ (Rl nl k tm R)) (fun _ _=>False))) :
  Eo P mv bd (.yld nl) args os R:=by
 intro hfree S θ M w vf vs hH hfv hsz hargs hlf hla
 cases hfv
 have hnb:nl < bd:=by
  cases Nat.lt_or_ge nl bd with
  | inl h=>exact h
  | inr h=>rw [hfree nl h] at hos; cases hos
 obtain ⟨hnil,rec,hrec,r1,r2,r3,r4,r5,r6,r7⟩:=hH.loopAt hos
 refine ⟨.round (θ nl).blk rec.fn ((rec.params.zip vs).foldl (fun tmps (x:Nat × Value)=>tmps.setIfInBounds x.1 x.2) rec.tmps) rec.assign rec.body,?_,?_⟩
 ·have:=run_yield (P:=P) (w:=w) (args:=vs) hrec (by rw [r3,hsz,hlen]; simp)
  simp only [Deferred.ofValue,invoke,pure_bind,Array.empty_append]
  exact this
 ·show RoundIn (Wd none) 0 P (θ nl).blk rec.fn _ rec.assign rec.body w _
  refine roundIn_of_wpIn (F:=Wd none) trivial ?_
  have hF:(Wd none).inRound (θ nl).blk=Wd (some (θ nl).blk):=rfl
  rw [hF,r4,r5]
  have htm:∀ i,Ar θ M w (T tm i) (rec.tmps.getD i undef):=fun i=>by
   rcases Ps tm i with e | ⟨j,e⟩
   ·rw [e]; exact .undef _
   ·exact r7 j _ e
  have htl:∀ i,(T tm i).lives os:=fun i=>by
   rcases Ps tm i with e | ⟨j,e⟩
   ·rw [e]; exact AV.lives_undef _
   ·exact AO.lives_loop.1 (hH.cl.2 nl _ hos) j _ e
  obtain ⟨q1,q2⟩:=U3 (ps:=k.ps) (args:=args) (vs:=vs.toList) (t:=T tm) (tmps:=rec.tmps) htm (by simpa using hsz) (fun i x hx=>by
   have:=hargs i x hx
   rw [Array.getD_eq_getD_getElem?] at this
   simpa [List.getD] using this) (fun p hp=>Nat.lt_of_lt_of_le (hps p hp) r6)
  have e1:(rec.params.zip vs).foldl (fun tmps (x:Nat × Value)=>tmps.setIfInBounds x.1 x.2) rec.tmps=(k.ps.zip vs.toList).foldl (fun tmps (p:Nat × Value)=>tmps.setIfInBounds p.1 p.2) rec.tmps:=by
   rw [r3,← Array.foldl_toList]; simp
  have hS0:Av k.n w.heap.size S θ M w ⟨Pt k.ps args (T tm),os⟩ { tmps:=(rec.params.zip vs).foldl (fun tmps (x:Nat × Value)=>tmps.setIfInBounds x.1 x.2) rec.tmps,defers:=[] }:=by
   rw [e1]
   exact ⟨by rw [q2]; exact r6,q1,hH.ob,hH.lv,hH.inj,hH.base,hH.mlt,⟨Qb htl hla,hH.cl.2⟩⟩
  refine wpIn_mono (h hH.cl hfree (θ nl).blk _ S θ M w _ hS0) ?_
  rintro e a1 w1 ⟨ae,s1,rfl,hq,⟨θ1,M1,hs1,hk1,ht1,hm1⟩,hd1⟩
  cases ae with
  | ret=>exact hq.elim
  | exit i=>exact hq.elim
  | normal=>
   obtain ⟨hn1,hbody⟩:=hq
   have et1:θ1 nl=θ nl:=ht1 nl hnb hmv
   obtain ⟨_,rec1,hrec1,s1',_⟩:=hs1.loopAt hn1
   obtain ⟨hp1,hpk1⟩:=hs1.loopPut hn1 hrec1 .busy rec1.pending
   have ekp:rec1.pending=k.pending:=by obtain ⟨_,r',h1,_,h2,_⟩:=hs1.loopAt hn1; rw [hrec1] at h1; cases h1; exact h2
   rw [et1] at hrec1 hp1 hpk1
   refine ⟨_,run_beginRound hrec1 (by rw [s1',hst]),?_⟩
   have hp1':Av k.n w.heap.size S θ1 M1 (w1.putObj (θ nl).blk (.loop { rec1 with state:=.busy })) ⟨s1.t,upd s1.o nl (some (.loop { k with state:=.busy } tm))⟩ a1:=by
    have:=hp1
    rw [show ({ k with state:=LoopState.busy,pending:=rec1.pending }:D3)={ k with state:=.busy } by rw [ekp]] at this
    exact this
   refine wpIn_mono (hbody _ S θ1 M1 _ a1 hp1') ?_
   rintro e a2 w2 ⟨ae,s2,rfl,hq,⟨θ2,M2,hs2,hk2,ht2,hm2⟩,hd2⟩
   have key:∀ jump:Option Code,Ml nl k tm R jump s2→∃ v w',(Instr.endRound (θ nl).blk jump).run P w2=.ok v w'∧∃ v',Ending.returned v=.returned v'∧Wr mv S bd θ M w R v' w':=by
    rintro jump ⟨hn2,os',hsub,hcl,hR⟩
    have et2:θ2 nl=θ nl:=(ht2 nl hnb hmv).trans et1
    obtain ⟨_,rec2,hrec2,_⟩:=hs2.loopAt hn2
    obtain ⟨hp2,hpk2⟩:=hs2.loopPut hn2 hrec2 (if jump.isNone then .ready else .done) jump
    rw [et2] at hrec2 hp2 hpk2
    refine ⟨_,_,run_endRound jump hrec2,_,rfl,_,os',θ2,M2,hR,hp2.hp hsub hcl,.p _ _ (.val _ rfl),AV.lives_p _ _,?_,fun n hn hv=>(ht2 n hn hv).trans (ht1 n hn hv),fun b hb hm hn=>hm2 b hb (hm1 b hb hm hn) hn⟩
    exact hk1.trans (hpk1.trans (hk2.trans hpk2 (fun _ _ h=>h)) (fun _ _ h=>h)) (fun _ _ h=>h)
   cases ae with
   | normal=>exact key none hq
   | ret=>exact key (some .ret) hq
   | exit i=>exact key (some (.exit i)) hq
end
end AM
end
