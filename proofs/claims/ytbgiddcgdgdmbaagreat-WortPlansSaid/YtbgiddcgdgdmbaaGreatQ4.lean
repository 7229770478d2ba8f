/- Lemmas for the proof: an abstract machine over the program's form in Lean, and the program's functions walked on it. -/
import Derived.Test.YtbgiddcgdgdmbaaGreatQ3
import Derived.LoopNIn
import Derived.Laws.IdiomRangeMap
import Derived.Maps.Keyed
import Derived.ProofKit
import Derived.Deep.Slices
import Derived.ChangeStays
/- The abstract machine, part 36: a slice literal that is never written again. -/
section
namespace AM
open Go
section
variable {P:Program} {nb N B:Nat} {S:Nat→Prop} {θ:Nat→Loc} {M:Nat→Prop} {w:World} {st st':St} {a:Act} {o:Oper} {d:Nat} {e:Eff}
theorem Aef (h:Av N B S θ M w st a) {dk:Nat} (hdst:o.dst=some dk) (hdN:dk < N) {k:Nat} {es:List (List PV)} {vs:List Value} {t:TypeId} {cap:Nat}
  (hk:∀ (i:Nat) (e:List PV),es[i]?=some e→e.length=k) (hc:es.length≤cap) (_:vs.length=cap * k) (_:∀ (i:Nat) (v:Value),vs[i]?=some v→v.oneCell'=true) (hfl:FL M w k es vs) :
  Adv nb N B S θ M w (st.put o.dst (.p (.sl es))) (a.put o.dst (.slice (some ⟨w.heap.size,0,none⟩) es.length cap)) (w.alloc (.cells vs.toArray t)):=by
 have hS:=h.ext (Bi.alloc (fun b=>w.heap.size≤b) w (.cells vs.toArray t))
 have hk':∀ b,b < w.heap.size→(w.alloc (.cells vs.toArray t)).heap[b]?=w.heap[b]?:=fun b hb=>Hl w _ hb
 refine ⟨θ,M,hS.put (d:=o.dst) (fun k e=>by rw [hdst] at e; cases e; exact hdN) (x:=.p (.sl es)) (v:=.slice (some ⟨w.heap.size,0,none⟩) es.length cap) (.p _ _ ?_) (AV.lives_p _ _),Bi.alloc _ _ _,fun _ _=>rfl,fun _ _ h=>h⟩
 refine C5.sl es w.heap.size 0 cap k (fun i j=>vs.getD (i * k+j) undef) hk hc (fun i e j x hi hj=>?_) (fun i e j x hi hj=>?_)
 ·obtain ⟨v,h2,_⟩:=hfl i e j x hi hj
  refine ⟨fun hm=>Nat.lt_irrefl _ (h.mlt _ hm),?_⟩
  refine Dh (Ha w _) ?_
  rw [Nat.zero_add,List.getElem?_toArray,h2,List.getD_eq_getElem?_getD,h2]; rfl
 ·obtain ⟨v,h2,h3⟩:=hfl i e j x hi hj
  rw [List.getD_eq_getElem?_getD,h2]
  exact h3.mono (fun b hb _=>hk' b hb) (fun _ _ hm=>hm)
theorem Abm (h:Av N B S θ M w st a) {t e:TypeId} {len:Nat} {parts:Array (Nat × Operand)} (ho:o.op=.buildSlice t len parts) {dk:Nat} (hdst:o.dst=some dk) (hdN:dk < N)
  (hk:(Ac P t).k=.sl e) (hg:∀ k,(Ac P e).k=k→k≠.bad) {es:List (List PV)} (hp:Bs (Ac P e).sz 0 (parts.toList.map fun p=>(p.1,ev st.t p.2))=some es) (hlen:es.length=len)
  (h24:len * (Ac P e).sz≤16777216) (hz:len=0∨((Ac P e).sz=(Ac P e).zero.length∧0 < (Ac P e).sz)) :
  Ee P nb N B S θ M w (st.put o.dst (.p (.sl es))) o a:=by
 subst hlen
 have hu:=E2 hk
 have hzero:∃ z:Array Value,(es.length * (Ac P e).sz=0→z=#[])∧(es.length * (Ac P e).sz≠0→∃ z',(zeroValue e).run P w=.ok z' w∧z=z'.cells):=by
  by_cases h0:es.length * (Ac P e).sz=0
  ·exact ⟨#[],fun _=>rfl,fun h=>absurd h0 h⟩
  ·rcases hz with h1 | ⟨h1,h2⟩
   ·exact absurd (by rw [h1]; simp) h0
   ·obtain ⟨z,hz1,_⟩:=F6 (P:=P) (w:=w) hg h1 h2
    exact ⟨z.cells,fun h=>absurd h h0,fun _=>⟨z,hz1,rfl⟩⟩
 obtain ⟨z,hza,hzb⟩:=hzero
 have hpl:(parts.toList.map fun p=>(p.1,ev st.t p.2)).length=es.length:=by
  have:∀ (k i:Nat) (l:List (Nat × AV)) (es:List (List PV)),Bs k i l=some es→l.length=es.length:=by
   intro k i l
   induction l generalizing i with
   | nil=>intro es h; simp only [Bs,Option.some.injEq] at h; subst h; rfl
   | cons x r ih=>
    intro es h
    obtain ⟨j,x⟩:=x
    simp only [Bs] at h
    cases hb:x.cs?.bind Mi with
    | none=>simp [hb] at h
    | some c=>
     cases hq:Bs k (i+1) r with
     | none=>simp [hb,hq] at h
     | some es'=>
      simp only [hb,hq] at h
      split at h
      ·have h:=Option.some.inj h; subst h; simp [ih _ _ hq]
      ·cases h
  exact this _ _ _ _ hp
 obtain ⟨out,vs,h1,h2,h3,h4,h5,h6,h7,h8⟩:=Td (θ:=θ) (M:=M) (w:=w) (Ac P e).sz (parts.toList.map fun p=>(p.1,ev st.t p.2)) (parts.toList.map fun p=>(p.1,a.eval p.2)) 0 es
  ((Array.range (es.length * (Ac P e).sz)).map (z[· % z.size]!)) [] (by simp [List.map_map,Function.comp_def]) (fun i p q hi hq=>by
   simp only [List.getElem?_map,Option.map_eq_some_iff] at hi hq
   obtain ⟨y,hy,rfl⟩:=hi
   obtain ⟨y',hy',rfl⟩:=hq
   rw [hy] at hy'; cases hy'
   exact Ar h y.2) hp (by simp) (by simp) (by rw [hpl]; simp)
 have hov:out.toList=vs:=by
  rw [Nat.zero_add,List.nil_append,hpl] at h3
  rw [← h3,List.take_of_length_le]
  simp [h2]
 have hrun:(Instr.buildSlice t es.length (parts.map fun (i,x)=>(i,a.eval x))).run P w=.ok (.slice (some ⟨w.heap.size,0,none⟩) es.length es.length) (w.alloc (.cells out e)):=by
  have h24':¬ (16777216 < es.length * (Ac P e).sz):=by omega
  have h1':Instr.fill (fun i=>some (i * (Ac P e).sz,(Ac P e).sz)) ((Array.range (es.length * (Ac P e).sz)).map (z[· % z.size]!)) (parts.map fun (i,x)=>(i,a.eval x)).toList=some out:=by
   rw [Array.toList_map]; exact h1
  by_cases h0:es.length * (Ac P e).sz=0
  ·have hz0:=hza h0
   subst hz0
   simp only [Instr.buildSlice,Sem.run_bind,Bf hu,Result.andThen_ok,B7 (w:=w) hg]
   rw [if_neg h24',if_pos h0]
   simp only [Sem.run_bind,Sem.run_pure,Result.andThen_ok,h1',newRow,run_newObj]
   rfl
  ·obtain ⟨z',hz1,rfl⟩:=hzb h0
   simp only [Instr.buildSlice,Sem.run_bind,Bf hu,Result.andThen_ok,B7 (w:=w) hg]
   rw [if_neg h24',if_neg h0]
   simp only [Sem.run_bind,hz1,Sem.run_pure,Result.andThen_ok,h1',newRow,run_newObj]
   rfl
 have hadv:=Aef (nb:=nb) (t:=e) (vs:=out.toList) h hdst hdN h6 (Nat.le_refl _) (by rw [hov]; exact h5) (by rw [hov]; exact h7) (by rw [hov]; exact h8)
 refine ⟨.slice (some ⟨w.heap.size,0,none⟩) es.length es.length,w.alloc (.cells out e),.inl ?_,by simpa using hadv⟩
 simp only [execOp,ho]
 exact L9 hrun
end
section
variable {P:Program} {r:RB} {N:Nat} {s:St} {K:St→Prop} {dst:Option Nat} {ty:TypeId} {pos:String} {after:Array Edge} {g:Option (Nat × Bool)} {all rest:List Oper}
def EPp (N:Nat) (dst:Option Nat) (s:St) (K:St→Prop):Option Eff→Prop
 | some (.new (.arr _ es) _)=>dst.isSome=true∧Ce N dst=true∧K (s.put dst (.p (.sl es)))
 | _=>False
theorem Gc {k:Nat} {es:List (List PV)} {x:AV}:EPp N dst s K (some (.new (.arr k es) x))=(dst.isSome=true∧Ce N dst=true∧K (s.put dst (.p (.sl es)))):=rfl
def EPb (P:Program) (N:Nat) (o:Oper) (s:St) (K:St→Prop):Prop:=match o.op with
 | .buildSlice t n parts=>EPp N o.dst s K (fBS P 0 n (parts.toList.map fun p=>(p.1,ev s.t p.2)) (Ac P t).k)
 | _=>False
theorem Kk {t:TypeId} {n:Nat} {parts:Array (Nat × Operand)}:EPb P N ⟨dst,.buildSlice t n parts,ty,pos,after,g⟩ s K=EPp N dst s K (fBS P 0 n (parts.toList.map fun p=>(p.1,ev s.t p.2)) (Ac P t).k):=rfl
theorem Zh {o:Oper} (h:EPb P N o s K):Cj P r N o s K:=by
 unfold EPb at h
 split at h
 ·rename_i t n parts ho
  intro B S θ M w a Q hs
  cases hk:(Ac P t).k with
  | sl e=>
   rw [hk,Ari] at h
   cases hp:Bs (Ac P e).sz 0 (parts.toList.map fun p=>(p.1,ev s.t p.2)) with
   | none=>rw [hp] at h; exact h.elim
   | some es=>
    rw [hp,Ad5] at h
    split at h
    ·rename_i hc
     rw [Gc] at h
     obtain ⟨h1,h2,h3⟩:=h
     obtain ⟨dk,hd⟩:=Option.isSome_iff_exists.1 h1
     obtain ⟨v,w',hr,hadv⟩:=Abm (nb:=r.b) hs ho hd (Dc h2 dk hd) hk (C0 hc.2.1) hp hc.1 hc.2.2.1 hc.2.2.2
     refine ⟨fun _ _=>trivial,?_⟩
     rw [Oper.semAt_eq _ _ _ (by rw [ho]; intro c h; cases h)]
     rcases hr with hr | ⟨hr,rfl⟩
     ·rw [hr]; exact ⟨_,h3,hadv.toM,by cases o.dst <;> rfl⟩
     ·rw [hr]; exact ⟨_,h3,hadv.toM,by cases o.dst <;> rfl⟩
    ·exact h.elim
  | _=>rw [hk] at h; exact h.elim
 ·exact h.elim
def ELp (P:Program) (r:RB) (N:Nat) (all:List Oper):Nat→List Oper→St→(St→Prop)→Prop
 | 0,o :: rest,s,K=>o.guard=none∧EPb P N o s fun s'=>EL P r N all rest s' K
 | k+1,o :: rest,s,K=>o.guard=none∧EO P r N o s fun s'=>ELp P r N all k rest s' K
 | _,[],_,_=>False
theorem Zz:∀ {l:List Oper} {k:Nat} {s:St} {K:St→Prop},ELp P r N all k l s K→AL P r N all l s K
 | ⟨dst,op,ty,pos,after,g⟩ :: rest,0,s,K,h=>by
  obtain ⟨h1,h2⟩:=h
  have h1:g=none:=h1
  subst h1
  exact AL.step ((Zh h2).mono fun s' h'=>D3 h')
 | ⟨dst,op,ty,pos,after,g⟩ :: rest,k+1,s,K,h=>by
  obtain ⟨h1,h2⟩:=h
  have h1:g=none:=h1
  subst h1
  exact AL.step ((F9 h2).mono fun s' h'=>Zz h')
 | [],0,_,_,h=>h.elim
 | [],_+1,_,_,h=>h.elim
theorem N9 (k:Nat) {Q:AEx→St→Prop} {id:Nat} {ops:List Oper} (h:ELp P r N ops k ops s (Q .normal)):AWP P r N (.region id ops.toArray false) s Q:=Dr (Zz h)
def EKp (P:Program) (r:RB) (N:Nat) (all:List Oper) (k:Nat) (rest:List Oper) (K:St→Prop) (s:St):Prop:=ELp P r N all k rest s K
theorem Mg {t:Nat→AV} {o:Nat→Option AO} {k:Nat}:EKp P r N all k rest K ⟨t,o⟩=ELp P r N all k rest ⟨t,o⟩ K:=rfl
theorem Tt {o:Op}:ELp P r N all 0 (⟨dst,o,ty,pos,after,none⟩ :: rest) s K=EPb P N ⟨dst,o,ty,pos,after,none⟩ s (EK P r N all rest K):=propext ⟨fun h=>h.2,fun h=>⟨rfl,h⟩⟩
theorem Ql {o:Op} {k:Nat}:ELp P r N all (k+1) (⟨dst,o,ty,pos,after,none⟩ :: rest) s K=EO P r N ⟨dst,o,ty,pos,after,none⟩ s (EKp P r N all k rest K):=propext ⟨fun h=>h.2,fun h=>⟨rfl,h⟩⟩
end
def Zl (es:Array MapEntry) (clock:Nat):Obj→Prop:=fun o=>o=.map es clock
def Ug (since:Nat) (seen:Array Nat) (last:Nat):Nat→Obj→Prop:=fun b o=>o=.mapIter (some b) since seen last
def F7 (es:Array MapEntry) (seen:Array Nat):Array MapEntry:=es.filter fun e=>!seen.contains e.born
theorem Afc {P:Program} (w:World) (ty:TypeId) (r bm since c0:Nat) (seen:Array Nat) (es:Array MapEntry) (clock:Nat) (hr:w.heap[r]?=some (.mapIter (some bm) since seen c0)) (hb:w.heap[bm]?=some (.map es clock)) (hold:∀ x ∈ es.toList,x.born < since) (hsc:since≤c0) :
  ((F7 es seen).size=0∧(Instr.next (.pointer (some ⟨r,0,none⟩)) false ty).run P w=.ok (.tuple #[.bool false]) w) ∨
  ∃ e ∈ (F7 es seen).toList,∃ w1:World,(w1=w∨w1=w.drew)∧(Instr.next (.pointer (some ⟨r,0,none⟩)) false ty).run P w=.ok (.tuple #[.bool true,e.key,e.val]) (w1.putObj r (.mapIter (some bm) since (seen.push e.born) clock)):=by
 simp only [Instr.next,getObj,Sem.run_bind,Sem.run,hr,hb,Result.andThen,Go.next_test_false seen es since c0 hold hsc,Bool.false_eq_true,if_false]
 unfold F7
 have hmem:∀ x ∈ (Array.filter (fun e=>!seen.contains e.born) es).toList,x.born < since:=fun x hx=>hold x (by simp at hx ⊢; exact hx.1)
 generalize Array.filter (fun e=>!seen.contains e.born) es=L at hmem ⊢
 have e1:L.filter (fun x=>decide (x.born < since))=L:=Array.filter_eq_self.2 (fun x hx=>by simpa using hmem x (by simpa using hx))
 have e2:L.filter (fun x=>decide (x.born ≥ since))=#[]:=by
  rw [Array.filter_eq_empty_iff]
  intro x hx
  have:=hmem x (by simpa using hx)
  simp
  omega
 simp only [e1,e2,Array.append_empty]
 by_cases h0:L.size=0
 ·left
  have:L=#[]:=Array.eq_empty_of_size_eq_zero h0
  subst this
  refine ⟨rfl,?_⟩
  simp [choose,Sem.run,Question.forced]
 ·right
  have hne:L.isEmpty=false:=by simp [Array.isEmpty,h0]
  simp only [hne,Bool.false_eq_true,if_false,Array.empty_append,Array.size_map]
  have hch:∃ (j:Nat) (w1:World),j < L.size∧(w1=w∨w1=w.drew)∧(choose (Question.mapNext L.size)).run P w=.ok j w1:=by
   by_cases hf:L.size≤1
   ·exact ⟨0,w,by omega,.inl rfl,by simp [choose,Sem.run,Question.forced,hf]⟩
   ·exact ⟨_,w.drew,Nat.mod_lt _ (by omega),.inr rfl,by
     simp only [choose,Sem.run,Question.forced,decide_eq_true_eq,hf,if_false,Question.cut]
     rfl⟩
  obtain ⟨j,w1,hj,hal,hrun⟩:=hch
  refine ⟨L[j],by simp,w1,hal,?_⟩
  have hr1:w1.heap[r]?=some (.mapIter (some bm) since seen c0):=by rcases hal with rfl | rfl <;> exact hr
  have hset:∀ (o':Obj),(setObj r o').run P w1=.ok () (w1.putObj r o'):=fun o'=>by
   simp only [setObj,Sem.run,hr1]; rfl
  simp only [hrun,Array.getElem?_map,Array.getElem?_eq_getElem hj,Option.map_some,Sem.run_bind,hset,Result.andThen]
  rfl
section
variable {P:Program} {r:RB} {N B:Nat} {S:Nat→Prop} {θ:Nat→Loc} {M:Nat→Prop} {w:World} {st:St} {a:Act} {o:Oper} {K:St→Prop} {Q:AEx→St→Prop}
theorem Aio {x:AV} {v:Value} {m:Nat} (h:Aq θ M w x v) (hx:x=.mp m):v=.map (some (θ m).blk):=by subst hx; cases h; rfl
theorem Aqe {c:Code} {n:Nat} {X:Obj→Prop} (hn:st.o n=some (.obj X)) (h:∀ ob,X ob→AWP P r N c (st.setO n (.obj (fun o=>o=ob))) Q):AWP P r N c st Q:=by
 intro B S θ M w a hs
 obtain ⟨h0,ob,h1,h2⟩:=hs.ob n _ hn
 refine h ob h2 B S θ M w a ?_
 exact hs.upd (o':=.obj (fun o=>o=ob)) hn h0 rfl (fun _ _=>rfl) ⟨h0,ob,h1,rfl⟩ (AO.lives_obj _ _)
theorem Ac0 {t k e:TypeId} {x:Operand} {dd m:Nat} {es:Array MapEntry} {clock:Nat} (ho:o.op=.range t x) (hd:o.dst=some dd) (hN:dd < N) (hfree:st.o (r.b+dd)=none) (ht:(Ac P t).k=.mp k e) (hx:ev st.t x=.mp m) (hm:st.o m=some (.obj (Zl es clock)))
  (h:K ((st.setO (r.b+dd) (.it m (Ug clock #[] clock))).put o.dst (.ptr (r.b+dd) 0))):Cj P r N o st K:=by
 intro B S θ M w a Q hs
 refine ⟨fun _ _=>trivial,?_⟩
 rw [Oper.semAt_eq _ _ _ (by rw [ho]; intro c h; cases h)]
 have hxv:=Aio (Ar hs x) hx
 obtain ⟨hnil,ob,hob,hX⟩:=hs.ob m _ hm
 have hX:ob=.map es clock:=hX
 subst hX
 have hu:P.underlying t=some (.map k e):=Pu ht
 have hrun:(execOp a.eval o).run P w=.ok (.value (.pointer (some ⟨w.heap.size,0,none⟩))) (w.alloc (.mapIter (some (θ m).blk) clock #[] clock)):=by
  simp only [execOp,ho,hxv]
  refine L9 ?_
  exact Go.run_range_map w t k e _ es clock hu hob
 rw [hrun]
 have hk:∀ b,b < w.heap.size→(w.alloc (.mapIter (some (θ m).blk) clock #[] clock)).heap[b]?=w.heap[b]?:=fun b hb=>Hl w _ hb
 have hmd:m≠r.b+dd:=fun em=>by rw [em,hfree] at hm; cases hm
 have hS:=hs.new (d:=r.b+dd) hfree (w':=w.alloc (.mapIter (some (θ m).blk) clock #[] clock)) (l:=⟨w.heap.size,0,false⟩) (o:=.it m (Ug clock #[] clock)) (by simp) hk (fun _=>⟨Nat.le_refl _,by simp⟩)
  ⟨rfl,_,Ha w _,by rw [Ay hmd]; rfl⟩ (AO.lives_it.2 (by
   show (upd st.o (r.b+dd) _ m).isSome=true
   rw [Ap hmd,hm]; rfl))
 refine ⟨_,h,⟨_,_,hS.put (d:=o.dst) (fun k e=>by rw [hd] at e; cases e; exact hN) (x:=.ptr (r.b+dd) 0) (v:=.pointer (some ⟨w.heap.size,0,none⟩)) ?_ ?_,Bi.alloc _ _ _,fun n hn _=>Ay (by omega),fun b _ hb _=>.inl hb⟩,by cases o.dst <;> rfl⟩
 ·have:=Aq.ptr (θ:=Dv θ (r.b+dd) ⟨w.heap.size,0,false⟩) (M:=fun b=>M b∨(false=false∧b=w.heap.size)) (w:=w.alloc (.mapIter (some (θ m).blk) clock #[] clock)) (r.b+dd) 0
  simpa using this
 ·intro q hq
  simp only [AV.clean,bne_eq_false_iff_eq] at hq
  subst hq
  simp [St.setO]
theorem Agk {x:Operand} {ri m since last:Nat} {seen:Array Nat} {es:Array MapEntry} {clock:Nat} (ho:o.op=.next x false) (hd:∀ k,o.dst=some k→k < N) (hx:ev st.t x=.ptr ri 0) (hri:st.o ri=some (.it m (Ug since seen last))) (hm:st.o m=some (.obj (Zl es clock)))
  (hold:∀ e ∈ es.toList,e.born < since) (hsc:since≤last) (hone:∀ e ∈ es.toList,e.key.oneCell'=true∧e.val.oneCell'=true)
  (h0:(F7 es seen).size=0→K (st.put o.dst (.tup [.p (.val (.bool false))])))
  (h1:∀ e ∈ (F7 es seen).toList,K ((st.setO ri (.it m (Ug since (seen.push e.born) clock))).put o.dst (.tup [.p (.val (.bool true)),.p (.val e.key),.p (.val e.val)]))):Cj P r N o st K:=by
 intro B S θ M w a Q hs
 refine ⟨fun _ _=>trivial,?_⟩
 rw [Oper.semAt_eq _ _ _ (by rw [ho]; intro c h; cases h)]
 have hxv:=Hq (Ar hs x) hx
 obtain ⟨hnil,ob,hob,hX⟩:=hs.ob m _ hm
 have hX:ob=.map es clock:=hX
 subst hX
 obtain ⟨rnil,ro,hro,rX⟩:=hs.ob ri _ hri
 have rX:ro=.mapIter (some (θ m).blk) since seen last:=rX
 subst rX
 have hlt:(θ ri).blk < w.heap.size:=hs.mlt _ (hs.lv ri _ hri rnil).1
 rcases Afc (P:=P) w o.type _ _ since last seen es clock hro hob hold hsc with ⟨g0,g1⟩ | ⟨e,he,w1,hw1,g1⟩
 ·have hrun:(execOp a.eval o).run P w=.ok (.value (.tuple #[.bool false])) w:=by
   simp only [execOp,ho,hxv]
   exact L9 g1
  rw [hrun]
  refine ⟨_,h0 g0,(Adv.put hs hd ?_ ?_).toM,by cases o.dst <;> rfl⟩
  ·refine .tup _ _ rfl (fun i x hx=>?_)
   match i,hx with
   | 0,hx=>cases hx; exact .p _ _ (.val _ rfl)
  ·refine AV.lives_tup.2 fun i x hx=>?_
   match i,hx with
   | 0,hx=>cases hx; exact AV.lives_p _ _
 ·have hrun:(execOp a.eval o).run P w=.ok (.value (.tuple #[.bool true,e.key,e.val])) (w1.putObj (θ ri).blk (.mapIter (some (θ m).blk) since (seen.push e.born) clock)):=by
   simp only [execOp,ho,hxv]
   exact L9 g1
  rw [hrun]
  have hs1:Av N B S θ M w1 st a:=by
   rcases hw1 with rfl | rfl
   ·exact hs
   ·exact hs.drew
  have hK1:Bi (fun b=>B≤b∨S b) w w1:=by
   rcases hw1 with rfl | rfl
   ·exact Bi.refl _ _
   ·exact Bi.drew _ _
  have hlt1:(θ ri).blk < w1.heap.size:=by rcases hw1 with rfl | rfl <;> exact hlt
  have hkk:∀ b,b≠(θ ri).blk→(w1.putObj (θ ri).blk (.mapIter (some (θ m).blk) since (seen.push e.born) clock)).heap[b]?=w1.heap[b]?:=fun b hb=>World.putObj_heap_other hb
  have hS:=hs1.upd (o':=.it m (Ug since (seen.push e.born) clock)) hri rnil (by simp) hkk ⟨rnil,_,World.putObj_heap_same hlt1,rfl⟩ (AO.lives_it.2 (by rw [hm]; rfl))
  have hes:e ∈ es.toList:=by
   unfold F7 at he
   have:e ∈ Array.filter (fun e=>!seen.contains e.born) es:=by simpa using he
   simpa using (Array.mem_filter.1 this).1
  obtain ⟨o1,o2⟩:=hone e hes
  refine ⟨_,h1 e he,⟨θ,M,hS.put hd (x:=.tup [.p (.val (.bool true)),.p (.val e.key),.p (.val e.val)]) (v:=.tuple #[.bool true,e.key,e.val]) ?_ ?_,hK1.trans (Bi.of_upd hs1 hri rnil (by simp) hkk rfl rfl rfl) (fun _ _ h=>h),fun _ _ _=>rfl,fun _ _ h _=>h⟩,by cases o.dst <;> rfl⟩
  ·refine .tup _ _ rfl (fun i x hx=>?_)
   match i,hx with
   | 0,hx=>cases hx; exact .p _ _ (.val _ rfl)
   | 1,hx=>cases hx; exact .p _ _ (.val _ o1)
   | 2,hx=>cases hx; exact .p _ _ (.val _ o2)
  ·refine AV.lives_tup.2 fun i x hx=>?_
   match i,hx with
   | 0,hx=>cases hx; exact AV.lives_p _ _
   | 1,hx=>cases hx; exact AV.lives_p _ _
   | 2,hx=>cases hx; exact AV.lives_p _ _
theorem Ad0 {x:Operand} {ri m since:Nat} {seen:Array Nat} {es:Array MapEntry} {clock:Nat} {e:MapEntry} (ho:o.op=.entry x) (hd:∀ k,o.dst=some k→k < N) (hx:ev st.t x=.ptr ri 0) (hri:st.o ri=some (.it m (Ug since (seen.push e.born) clock))) (hm:st.o m=some (.obj (Zl es clock)))
  (he:e ∈ es.toList) (hnd:(es.toList.map (·.born)).Nodup) (o1:e.key.oneCell'=true) (o2:e.val.oneCell'=true)
  (h1:K (st.put o.dst (.tup [.p (.val e.key),.p (.val e.val)]))):Cj P r N o st K:=by
 intro B S θ M w a Q hs
 refine ⟨fun _ _=>trivial,?_⟩
 rw [Oper.semAt_eq _ _ _ (by rw [ho]; intro c h; cases h)]
 have hxv:=Hq (Ar hs x) hx
 obtain ⟨hnil,ob,hob,hX⟩:=hs.ob m _ hm
 have hX:ob=.map es clock:=hX
 subst hX
 obtain ⟨rnil,ro,hro,rX⟩:=hs.ob ri _ hri
 have rX:ro=.mapIter (some (θ m).blk) since (seen.push e.born) clock:=rX
 subst rX
 have hf:es.find? (·.born == e.born)=some e:=by
  rw [← Array.find?_toList]
  exact Go.find_born e es.toList hnd he
 have hrun:(execOp a.eval o).run P w=.ok (.value (.tuple #[e.key,e.val])) w:=by
  simp only [execOp,ho,hxv]
  refine L9 ?_
  simp [Instr.entry,getObj,Sem.run,hro,hob,hf]
 rw [hrun]
 refine ⟨_,h1,(Adv.put hs hd ?_ ?_).toM,by cases o.dst <;> rfl⟩
 ·refine .tup _ _ rfl (fun i x hx=>?_)
  match i,hx with
  | 0,hx=>cases hx; exact .p _ _ (.val _ o1)
  | 1,hx=>cases hx; exact .p _ _ (.val _ o2)
 ·refine AV.lives_tup.2 fun i x hx=>?_
  match i,hx with
  | 0,hx=>cases hx; exact AV.lives_p _ _
  | 1,hx=>cases hx; exact AV.lives_p _ _
def Ab8 (S:List Int):Obj→Prop:=fun o=>∃ es clock,o=.map es clock∧(∀ e ∈ es.toList,e.born < clock)∧(es.toList.map (·.born)).Nodup∧(∀ e ∈ es.toList,e.val=.bool true∧∃ k,e.key=.int .i64 k∧k ∈ S∧inR k=true)∧∀ k ∈ S,∃ e ∈ es.toList,e.key=.int .i64 k
theorem Yk {t:TypeId} {dd:Nat} (ho:o.op=.makeMap t none) (hd:o.dst=some dd) (hN:dd < N) (hfree:st.o (r.b+dd)=none)
  (h:K ((st.setO (r.b+dd) (.obj (Ab8 []))).put o.dst (.mp (r.b+dd)))):Cj P r N o st K:=by
 intro B S θ M w a Q hs
 refine ⟨fun _ _=>trivial,?_⟩
 rw [Oper.semAt_eq _ _ _ (by rw [ho]; intro c h; cases h)]
 have hrun:(execOp a.eval o).run P w=.ok (.value (.map (some w.heap.size))) (w.alloc (.map #[] 0)):=by
  simp [execOp,ho,Instr.makeMap]
 rw [hrun]
 have hk:∀ b,b < w.heap.size→(w.alloc (.map #[] 0)).heap[b]?=w.heap[b]?:=fun b hb=>Hl w _ hb
 have hS:=hs.new (d:=r.b+dd) hfree (w':=w.alloc (.map #[] 0)) (l:=⟨w.heap.size,0,false⟩) (o:=.obj (Ab8 [])) (by simp) hk (fun _=>⟨Nat.le_refl _,by simp⟩)
  ⟨rfl,_,Ha w _,#[],0,rfl,by simp,by simp,by simp,by simp⟩ (AO.lives_obj _ _)
 refine ⟨_,h,⟨_,_,hS.put (d:=o.dst) (fun k e=>by rw [hd] at e; cases e; exact hN) (x:=.mp (r.b+dd)) (v:=.map (some w.heap.size)) ?_ ?_,Bi.alloc _ _ _,fun n hn _=>Ay (by omega),fun b _ hb _=>.inl hb⟩,by cases o.dst <;> rfl⟩
 ·have:=Aq.mp (θ:=Dv θ (r.b+dd) ⟨w.heap.size,0,false⟩) (M:=fun b=>M b∨(false=false∧b=w.heap.size)) (w:=w.alloc (.map #[] 0)) (r.b+dd)
  simpa using this
 ·intro m hm
  simp only [AV.clean,bne_eq_false_iff_eq] at hm
  subst hm
  simp [St.setO]
theorem Ad9 {x:AV} {v u:Value} (h:Aq θ M w x v) (hx:x=.p (.val u)):v=u:=by
 subst hx
 cases h with
 | p _ _ hp=>cases hp; rfl
theorem Aaz {t k e:TypeId} {x i v:Operand} {m:Nat} {S0:List Int} {n:Int} (ho:o.op=.mapUpdate t x i v) (hd:o.dst=none) (ht:(Ac P t).k=.mp k e) (hk:P.underlying k=some (.int .i64)) (hx:ev st.t x=.mp m) (hm:st.o m=some (.obj (Ab8 S0))) (hi:ev st.t i=.p (.val (.int .i64 n))) (hn:inR n=true) (hv:ev st.t v=.p (.val (.bool true)))
  (h1:K (st.setO m (.obj (Ab8 (n :: S0))))):Cj P r N o st K:=by
 intro B S θ M w a Q hs
 refine ⟨fun _ _=>trivial,?_⟩
 rw [Oper.semAt_eq _ _ _ (by rw [ho]; intro c h; cases h)]
 have hxv:=Aio (Ar hs x) hx
 have hiv:=Ad9 (Ar hs i) hi
 have hvv:=Ad9 (Ar hs v) hv
 obtain ⟨hnil,ob,hob,es,clock,rfl,s1,s2,s3,s4⟩:=hs.ob m _ hm
 have hu:P.underlying t=some (.map k e):=Pu ht
 have KY:=Maps.int_keyed hk
 have hkey:∀ j:Int,inR j=true→∃ l,keyOf P k (.int .i64 j)=some l:=fun j hj=>by
  simp only [inR,Bool.and_eq_true,decide_eq_true_eq] at hj
  refine ⟨.int .i64 j,?_⟩
  have hwf:(Lit.int .i64 j).wf=true:=by simp [Lit.wf,IntKind.min,IntKind.max,IntKind.signed,IntKind.bits]; omega
  simp [keyOf,hk,mapKey,hwf]
 obtain ⟨l,hkl⟩:=hkey n hn
 have hchk:∀ em,(Instr.checkKey em 10000 k (.int .i64 n)).run P w=.ok () w:=fun em=>KY.check w em hkl
 have hlt:(θ m).blk < w.heap.size:=hs.mlt _ (hs.lv m _ hm hnil).1
 have fin:∀ es' clock',Ab8 (n :: S0) (.map es' clock')→∃ st',K st'∧Fin r N B S θ M w a st' (a.put o.dst undef) (w.putObj (θ m).blk (.map es' clock')):=by
  intro es' clock' hX
  have hkk:∀ b,b≠(θ m).blk→(w.putObj (θ m).blk (.map es' clock')).heap[b]?=w.heap[b]?:=fun b hb=>World.putObj_heap_other hb
  have hS:=hs.upd (o':=.obj (Ab8 (n :: S0))) hm hnil (by simp) hkk ⟨hnil,_,World.putObj_heap_same hlt,hX⟩ (AO.lives_obj _ _)
  rw [hd]
  exact ⟨_,h1,⟨θ,M,hS,Bi.of_upd hs hm hnil (by simp) hkk rfl rfl rfl,fun _ _ _=>rfl,fun _ _ h _=>h⟩,rfl⟩
 rcases KY.find w hkl es.toList (fun q hq=>by
  obtain ⟨_,j,hj,_,hjr⟩:=s3 q hq
  rw [hj]
  exact hkey j hjr) with ⟨hf,hno⟩ | ⟨j,q,hf,hq,hqk⟩
 ·have hrun:(execOp a.eval o).run P w=.ok .skip (w.putObj (θ m).blk (.map (es.push { key:=.int .i64 n,val:=.bool true,born:=clock }) (clock+1))):=by
   simp [execOp,ho,hxv,hiv,hvv,Instr.mapUpdate,Bf hu,getObj,setObj,Sem.run,hob,hchk,hf,World.putObj]
  rw [hrun]
  refine fin _ _ ⟨_,_,rfl,fun q hq=>?_,?_,fun q hq=>?_,fun j hj=>?_⟩
  ·simp only [Array.toList_push,List.mem_append,List.mem_singleton] at hq
   rcases hq with hq | rfl
   ·have:=s1 q hq; omega
   ·exact Nat.lt_succ_self _
  ·simp only [Array.toList_push,List.map_append,List.map_cons,List.map_nil]
   refine List.nodup_append.2 ⟨s2,by simp,fun x hx y hy e=>?_⟩
   obtain ⟨q,hq,rfl⟩:=List.mem_map.1 hx
   have:=s1 q hq
   simp only [List.mem_singleton] at hy
   omega
  ·simp only [Array.toList_push,List.mem_append,List.mem_singleton] at hq
   rcases hq with hq | rfl
   ·obtain ⟨g1,j,g2,g3⟩:=s3 q hq
    exact ⟨g1,j,g2,by simp [g3.1],g3.2⟩
   ·exact ⟨rfl,n,rfl,by simp,hn⟩
  ·rcases List.mem_cons.1 hj with rfl | hj
   ·exact ⟨{ key:=.int .i64 j,val:=.bool true,born:=clock },by simp,rfl⟩
   ·obtain ⟨q,hq,g⟩:=s4 j hj
    exact ⟨q,by simp [hq],g⟩
 ·have hj':es[j]?=some q:=by simpa using hq
  have hst:=KY.stays w hkl
  have hrun:(execOp a.eval o).run P w=.ok .skip (w.putObj (θ m).blk (.map (es.modify j fun e=>{ e with key:=.int .i64 n,val:=.bool true }) clock)):=by
   simp [execOp,ho,hxv,hiv,hvv,Instr.mapUpdate,Bf hu,getObj,setObj,Sem.run,hob,hchk,hf,World.putObj,hj',hqk,hst]
  rw [hrun]
  have hqm:q ∈ es.toList:=List.mem_of_getElem? hq
  obtain ⟨v1,k1,v2,v3⟩:=s3 q hqm
  have hmod:es.modify j (fun e=>{ e with key:=.int .i64 n,val:=.bool true })=es:=by
   refine Array.ext_getElem? fun i=>?_
   rw [Array.getElem?_modify]
   split
   ·rename_i hi
    subst hi
    rw [hj',Option.map_some]
    congr 1
    obtain ⟨qk,qv,qb⟩:=q
    dsimp only at hqk v1
    subst hqk; subst v1; rfl
   ·rfl
  rw [hmod]
  have hk1:k1=n:=by rw [hqk] at v2; injection v2 with _ h; exact h.symm
  refine fin _ _ ⟨_,_,rfl,s1,s2,fun q hq=>?_,fun j hj=>?_⟩
  ·obtain ⟨g1,j,g2,g3⟩:=s3 q hq
   exact ⟨g1,j,g2,by simp [g3.1],g3.2⟩
  ·rcases List.mem_cons.1 hj with rfl | hj
   ·exact ⟨q,hqm,hqk⟩
   ·exact s4 j hj
end
section
variable {P:Program} {r:RB} {N:Nat}
theorem Alw {c:Code} {l:List (Nat × AV)} {m:List (Nat × AO)} {Q:AEx→St→Prop} (n:Nat) {X:Obj→Prop} (hn:O m n=some (.obj X)) (h:∀ ob,X ob→AWP P r N c ⟨T l,O ((n,.obj (fun o=>o=ob)) :: m)⟩ Q):AWP P r N c ⟨T l,O m⟩ Q:=Aqe hn h
theorem Ahf {ι:Type} (l1:ι→List (Nat × AV)) (m1:ι→List (Nat × AO)) (ok:ι→Prop) {cd rest:Code} {K:St→Prop} {Q2 Q3:AEx→St→Prop} {s:St} (hK:∀ s',AWP P r N rest s' Q2→K s') (h3:∀ i,nmT (L6 (m1 i)) (l1 i)=true) (h4:∀ i,Wt (L6 (m1 i)) (m1 i)=true) (h1:AWP P r N cd s (fun e s'=>∃ i,ok i∧Aob (l1 i) (m1 i) e s')) (h2:∀ i,ok i→∀ K':St→Prop,(∀ s',AWP P r N rest s' Q2→K' s')→K' ⟨T (l1 i),O (m1 i)⟩):AWP P r N cd s (Kr K Q3):=
 h1.mono fun e s' ⟨i,hi,he,hl,ho⟩=>by subst he; exact hK s' (Adh (l1 i) (m1 i) hl ho (h3 i) (h4 i) (h2 i hi (fun s=>AWP P r N rest s Q2) fun _ h=>h))
end
theorem Wp {es:Array MapEntry} {seen:Array Nat} {e:MapEntry} (h:e ∈ (F7 es seen).toList):e ∈ es.toList∧e.born ∉ seen:=by
 unfold F7 at h
 rw [Array.toList_filter,List.mem_filter] at h
 exact ⟨h.1,by simpa using h.2⟩
theorem Aj8 {es:Array MapEntry} {seen:Array Nat} {e:MapEntry} (h:e ∈ (F7 es seen).toList):(F7 es (seen.push e.born)).size < (F7 es seen).size:=by
 have h2:(F7 es (seen.push e.born)).toList=((F7 es seen).toList).filter fun x=>!(x.born == e.born):=by
  unfold F7
  rw [Array.toList_filter,Array.toList_filter,List.filter_filter]
  congr 1
  funext x
  simp only [Array.contains_push,Bool.not_or]
  rw [Bool.and_comm]
 rw [← Array.length_toList,← Array.length_toList,h2]
 exact List.length_filter_lt_length_iff_exists.2 ⟨e,h,by simp⟩
theorem Aj9 {es:Array MapEntry} {seen:Array Nat} (h:(F7 es seen).size=0) {e:MapEntry} (he:e ∈ es.toList):e.born ∈ seen:=by
 rw [← Array.length_toList] at h
 unfold F7 at h
 rw [Array.toList_filter,List.length_eq_zero_iff,List.filter_eq_nil_iff] at h
 simpa using h e he
structure Ban (S:List Int) (es:Array MapEntry) (clock:Nat):Prop where
 old:∀ e ∈ es.toList,e.born < clock
 nd:(es.toList.map (·.born)).Nodup
 key:∀ e ∈ es.toList,e.val=.bool true∧∃ k,e.key=.int .i64 k∧k ∈ S∧inR k=true
 all:∀ k ∈ S,∃ e ∈ es.toList,e.key=.int .i64 k
theorem Auj {S:List Int} {ob:Obj} (h:Ab8 S ob):∃ es clock,ob=.map es clock∧Ban S es clock:=by
 obtain ⟨es,clock,rfl,h1,h2,h3,h4⟩:=h
 exact ⟨es,clock,rfl,h1,h2,h3,h4⟩
def Vw (p:Int→Bool) (es:Array MapEntry) (seen:Array Nat):Prop:=∀ e ∈ es.toList,e.born ∈ seen→∀ k,e.key=.int .i64 k→p k=false
theorem Agu {p:Int→Bool} {es:Array MapEntry}:Vw p es #[]:=fun _ _ h=>by simp at h
theorem Af4 {es:List MapEntry} (h:(es.map (·.born)).Nodup) {a b:MapEntry} (ha:a ∈ es) (hb:b ∈ es) (he:a.born=b.born):a=b:=by
 induction es with
 | nil=>cases ha
 | cons x l ih=>
  rw [List.map_cons,List.nodup_cons] at h
  rcases List.mem_cons.1 ha with e1 | g1 <;> rcases List.mem_cons.1 hb with e2 | g2
  ·rw [e1,e2]
  ·exact absurd (List.mem_map.2 ⟨b,g2,by rw [← he,e1]⟩) h.1
  ·exact absurd (List.mem_map.2 ⟨a,g1,by rw [he,e2]⟩) h.1
  ·exact ih h.2 g1 g2
theorem Adm {p:Int→Bool} {S:List Int} {es:Array MapEntry} {clock:Nat} {seen:Array Nat} {e:MapEntry} {k:Int} (hE:Ban S es clock) (h:Vw p es seen) (he:e ∈ es.toList) (hk:e.key=.int .i64 k) (hp:p k=false):Vw p es (seen.push e.born):=fun x hx hb j hj=>by
 rcases Array.mem_push.1 hb with hb | hb
 ·exact h x hx hb j hj
 ·have:=Af4 hE.nd hx he hb
  subst this
  rw [hk] at hj; injection hj with _ hj; subst hj; exact hp
theorem Vr {p:Int→Bool} {S:List Int} {es:Array MapEntry} {clock:Nat} {seen:Array Nat} (hE:Ban S es clock) (h:Vw p es seen) (h0:(F7 es seen).size=0):S.any p=false:=by
 rw [List.any_eq_false]
 intro k hk
 obtain ⟨e,he,hek⟩:=hE.all k hk
 rw [h e he (Aj9 h0 he) k hek]; simp
end AM
end
/- Plans in plain Lean: the steps that are tried, and what is found. -/
section
namespace AM.Wort
open Go AM
def Ei (vs:List Ves) (v:List Liq) (f t:Nat):Int:=if f≠t then min ((vs.getD t default).room - (A8 v t).g) (A8 v f).g else (vs.getD t default).room - (A8 v t).g
def C8 (f t n:Nat):Stp:=⟨if f≠t then 0 else 1,f,t,⟨(n:Int)+1,(n:Int)+1⟩⟩
def Qn (f t:Nat):Nat→Nat→List Stp
 | 0,_=>[]
 | c+1,n=>C8 f t n :: Qn f t c (n+1)
def N0 (vs:List Ves) (v:List Liq) (f:Nat):Nat→Nat→List Stp
 | 0,_=>[]
 | c+1,t=>Qn f t (Ei vs v f t).toNat 0++N0 vs v f c (t+1)
def Pg (vs:List Ves) (v:List Liq):Nat→Nat→List Stp
 | 0,_=>[]
 | c+1,f=>N0 vs v f vs.length 0++Pg vs v c (f+1)
def Gi (vs:List Ves) (v:List Liq):List Stp:=Pg vs v vs.length 0
theorem Z6 {f t:Nat} {s:Stp}:∀ {c n:Nat},s ∈ Qn f t c n→∃ k,n≤k∧k < n+c∧s=C8 f t k
 | 0,_,h=>by cases h
 | c+1,n,h=>by
  rcases List.mem_cons.1 h with rfl | h
  ·exact ⟨n,Nat.le_refl _,by omega,rfl⟩
  ·obtain ⟨k,h1,h2,h3⟩:=Z6 h
   exact ⟨k,by omega,by omega,h3⟩
theorem Z9 {vs:List Ves} {v:List Liq} {f:Nat} {s:Stp}:∀ {c t:Nat},s ∈ N0 vs v f c t→∃ (t' k:Nat),t≤t'∧t' < t+c∧(k:Int) < Ei vs v f t'∧s=C8 f t' k
 | 0,_,h=>by cases h
 | c+1,t,h=>by
  rcases List.mem_append.1 h with h | h
  ·obtain ⟨k,h1,h2,h3⟩:=Z6 h
   exact ⟨t,k,Nat.le_refl _,by omega,by omega,h3⟩
  ·obtain ⟨t',k,h1,h2,h3,h4⟩:=Z9 h
   exact ⟨t',k,by omega,by omega,h3,h4⟩
theorem Z2 {vs:List Ves} {v:List Liq} {s:Stp}:∀ {c f:Nat},s ∈ Pg vs v c f→∃ (f' t k:Nat),f' < f+c∧t < vs.length∧(k:Int) < Ei vs v f' t∧s=C8 f' t k
 | 0,_,h=>by cases h
 | c+1,f,h=>by
  rcases List.mem_append.1 h with h | h
  ·obtain ⟨t',k,h1,h2,h3,h4⟩:=Z9 h
   exact ⟨f,t',k,by omega,by omega,h3,h4⟩
  ·obtain ⟨f',t,k,h2,h3,h4,h5⟩:=Z2 h
   exact ⟨f',t,k,by omega,h3,h4,h5⟩
theorem Ald {vs:List Ves} {v:List Liq} {s:Stp} (h:s ∈ Gi vs v):∃ (f t k:Nat),f < vs.length∧t < vs.length∧(k:Int) < Ei vs v f t∧s=C8 f t k:=by
 obtain ⟨f,t,k,h1,h2,h3,h4⟩:=Z2 h
 exact ⟨f,t,k,by omega,h2,h3,h4⟩
theorem Afi {f t k:Nat}:∀ {c n:Nat},n≤k→k < n+c→C8 f t k ∈ Qn f t c n
 | 0,_,h1,h2=>by omega
 | c+1,n,h1,h2=>by
  by_cases e:k=n
  ·subst e; exact List.mem_cons_self
  ·exact List.mem_cons_of_mem _ (Afi (by omega) (by omega))
theorem Aej {vs:List Ves} {v:List Liq} {f t' k:Nat} (hk:(k:Int) < Ei vs v f t'):∀ {c t:Nat},t≤t'→t' < t+c→C8 f t' k ∈ N0 vs v f c t
 | 0,_,h1,h2=>by omega
 | c+1,t,h1,h2=>by
  by_cases e:t'=t
  ·subst e; exact List.mem_append_left _ (Afi (by omega) (by omega))
  ·exact List.mem_append_right _ (Aej hk (by omega) (by omega))
theorem Aeb {vs:List Ves} {v:List Liq} {f' t k:Nat} (ht:t < vs.length) (hk:(k:Int) < Ei vs v f' t):∀ {c f:Nat},f≤f'→f' < f+c→C8 f' t k ∈ Pg vs v c f
 | 0,_,h1,h2=>by omega
 | c+1,f,h1,h2=>by
  by_cases e:f'=f
  ·subst e; exact List.mem_append_left _ (Aej hk (by omega) (by omega))
  ·exact List.mem_append_right _ (Aeb ht hk (by omega) (by omega))
theorem Ae4 {vs:List Ves} {v:List Liq} {f t k:Nat} (hf:f < vs.length) (ht:t < vs.length) (hk:(k:Int) < Ei vs v f t):C8 f t k ∈ Gi vs v:=Aeb ht hk (by omega) (by omega)
theorem Acx {f t n:Nat} (h:f≠t):avS (C8 f t n)=.agg [i64 0,i64 f,i64 t,i64 ((n:Int)+1),i64 ((n:Int)+1)]:=by
 unfold C8; simp only [h,ne_eq,not_false_eq_true,if_true]
theorem Ys {f t n:Nat} (h:f=t):avS (C8 f t n)=.agg [i64 1,i64 f,i64 t,i64 ((n:Int)+1),i64 ((n:Int)+1)]:=by
 unfold C8; simp only [h,ne_eq,not_true_eq_false,if_false]
theorem Aiv {vs:List Ves} (hv:vs.all Df=true) {k:Nat} (hk:k < vs.length):(vs.getD k default).room≤60:=(Cp (List.all_eq_true.1 hv _ (Em default hk))).2.2.2
theorem Auv {vs:List Ves} (hv:vs.all Df=true) {k:Nat} (hk:k < vs.length):0≤(vs.getD k default).room:=(Cp (List.all_eq_true.1 hv _ (Em default hk))).2.2.1
theorem Apw {vs:List Ves} {v:List Liq} {s:Stp} (hv:OkV v) (hvs:vs.length≤4) (hva:vs.all Df=true) (h:s ∈ Gi vs v):Dm vs.length s=true∧1≤s.g.lo∧s.g.lo≤60∧(doS vs v s s.g.lo).2=true∧OkV (Fc v s s.g.lo).1∧(s.kind=0∨s.kind=1):=by
 obtain ⟨f,t,k,hf,ht,hk,rfl⟩:=Ald h
 have hr:=Aiv hva ht
 have g1:=hv.g f
 have g2:=hv.g t
 have e1:=hv.e f
 have hl:=hv.len
 have hm:(k:Int)+1≤(vs.getD t default).room - (A8 v t).g:=by
  unfold Ei at hk; unfold A8 at *; split at hk <;> omega
 have h60:(k:Int)+1≤60:=by unfold A8 at hm; omega
 have hs:Dm vs.length (C8 f t k)=true:=by
  have k1:Gp ⟨(k:Int)+1,(k:Int)+1⟩ 60=true:=by
   simp only [Gp,Bool.and_eq_true,decide_eq_true_eq]; omega
  have k2:∀ x:Nat,x < vs.length→inB (x:Int) 0 ((vs.length:Int) - 1)=true:=fun x hx=>by
   simp only [inB,Bool.and_eq_true,decide_eq_true_eq]; omega
  by_cases e:f=t
  ·subst e
   simp only [Dm,C8,k1,k2 f hf,ne_eq,not_true_eq_false,if_false]; rfl
  ·simp only [Dm,C8,k1,k2 f hf,k2 t ht,ne_eq,e,not_false_eq_true,if_true]
   have:((f:Int)=(t:Int))=False:=eq_false (by omega)
   simp only [this]; rfl
 have hd:(doS vs v (C8 f t k) (C8 f t k).g.lo).2=true:=by
  simp only [doS,Bool.and_eq_true,decide_eq_true_eq]
  by_cases e:f=t
  ·subst e
   have hkd:(C8 f f k).kind=1:=by simp [C8]
   have hto:(C8 f f k).to.toNat=f:=by simp [C8]
   have hn:(C8 f f k).g.lo=(k:Int)+1:=rfl
   simp only [Fc,hkd,hto,hn]
   simp only [show ((1:Int)=0)=False by simp,if_false,if_true,Lb]
   refine ⟨trivial,?_⟩
   rw [Ek,if_pos ⟨rfl,by omega⟩]
   show (A8 v f).g+_≤_
   omega
  ·have hkd:(C8 f t k).kind=0:=by simp [C8,e]
   have hto:(C8 f t k).to.toNat=t:=by simp [C8]
   have hfr:(C8 f t k).frm.toNat=f:=by simp [C8]
   have hn:(C8 f t k).g.lo=(k:Int)+1:=rfl
   have hm2:(k:Int)+1≤(A8 v f).g:=by unfold Ei at hk; rw [if_pos e] at hk; omega
   simp only [Fc,hkd,hto,hfr,hn,if_true,Ex]
   rw [if_neg (by omega),if_pos (by omega)]
   refine ⟨rfl,?_⟩
   unfold Hy G8
   rw [Ek,if_pos ⟨rfl,by rw [List.length_set]; omega⟩]
   show (A8 (v.set f _) t).g+_≤_
   rw [Ek,if_neg (by omega)]
   omega
 refine ⟨hs,by show 1≤(k:Int)+1; omega,h60,hd,Ajk (s:=C8 f t k) hv hvs hva hs (by show 0≤(k:Int)+1; omega) hd,?_⟩
 show (if f≠t then (0:Int) else 1)=0∨_
 split
 ·exact .inl rfl
 ·right; show (if f≠t then (0:Int) else 1)=1; rw [if_neg (by assumption)]
def W1 (n:Nat) (v:List Liq) (g k:Int):Bool:=(v.take n).any fun l=>decide (l.g=g)&&decide (Nf l=k)
def Da (vs:List Ves) (g k:Int):Nat→List Liq→List Stp→Option (List Stp)
 | 0,v,p=>if W1 vs.length v g k=true then some p else none
 | m+1,v,p=>(Gi vs v).findSome? fun s=>Da vs g k m (Fc v s s.g.lo).1 (p++[s])
def Apz (vs:List Ves) (g k:Int) (v:List Liq):Option (List Stp):=(Da vs g k 0 v []).or ((Da vs g k 1 v []).or (Da vs g k 2 v []))
def Lf (vs:List Ves):Bool:=vs.all fun x=>!(decide (1 < Dp x.g)||decide (1 < Dp x.d))
def Dt (vs:List Ves):List Liq × Bool:=Pa vs (vs.map (·.g.lo)) (vs.map (·.d.lo))
def Pm (g k:Int):Bool:=inB g 1 60&&inB k 0 120
def Jh (b:Cx) (g k:Int):AV:=
 if B5 b≠0 then .tup [Dk,i64 (B5 b)]
 else if (Lf b.vs&&Pm g k)=false then .tup [Dk,i64 2]
 else if (Dt b.vs).2=false then .tup [Dk,i64 10]
 else match Apz b.vs g k (Dt b.vs).1 with
  | some p=>.tup [.p (.sl (p.map Qc)),i64 0]
  | none=>.tup [Dk,i64 10]
end AM.Wort
end
/- Ranges over functions that yield values; searches of the beginning of an array. -/
section
namespace AM
open Go AM AM.Duty
open Nat renaming reduceLT→sA,reduceAdd→sB,reduceMul→sC,reduceSub→sD,reduceLeDiff→sE,reduceEqDiff→sF,reduceBEq→sG
open Int renaming reduceAdd→sH,reduceSub→sI,reduceMul→sJ,reduceLT→sK,reduceLE→sL,reduceNeg→sM,reduceToNat→sN,reduceEq→sO
set_option maxHeartbeats 4000000
abbrev Aph (k:G2) (j:Option Code):G2:={ k with state:=if j.isNone then .ready else .done,pending:=j }
structure Ai8 (P:Program) (fv:AV) (F:Nat→Prop) {σ α:Type} (arg:α→AV) (l:List α) (go:σ→Prop) (I:σ→(Nat→Option AO)→Prop) (step:σ→α→σ × Bool):Prop where
  live:∀ s os,I s os→fv.lives os
  stable:∀ s os os',I s os→(∀ n,F n→os' n=os n)→I s os'
  foot:∀ s os n,I s os→F n→∃ o,os n=some o∧∀ m,o.clean m=false→F m
  next:∀ s x,x ∈ l→go s→(step s x).2=true→go (step s x).1
  call:∀ s x os bd,x ∈ l→go s→I s os→(Hp os).closed→Bt P bd fv [arg x] os fun res os'=>res=bl (step s x).2∧I (step s x).1 os'∧∀ n,¬ F n→os' n=os n
structure Abn (P:Program) (bdL:Nat) (k:G2) (tm:List (Nat × AV)) (v q:List Nat) (F:Nat→Prop) {σ α:Type} (arg:α→AV) (l:List α) (I:σ→(Nat→Option AO)→Prop) (bst:σ→α→σ × Option Code):Prop where
  ready:k=Aph k none
  lenp:k.ps.length=1
  psn:∀ p ∈ k.ps,p < k.n
  notF:¬ F bdL
  tmF:∀ m,(AO.loop k tm).clean m=false→F m
  stable:∀ s os os',I s os→(∀ n,F n→os' n=os n)→I s os'
  foot:∀ s os n,I s os→F n→∃ o,os n=some o∧∀ m,o.clean m=false→F m
  body:∀ s x os bd,x ∈ l→I s os→os bdL=some (.loop k tm)→(Hp os).closed→(∀ n,bd≤n→os n=none)→bdL < bd →
    ∀ rl,AWP P ⟨⟨some rl,fun _=>False⟩,bd,v,q⟩ k.n k.assign ⟨J3 k.ps [arg x] (T tm),os⟩ (Kr (fun s1=>s1.o bdL=some (.loop k tm)∧AWP P ⟨⟨some rl,fun _=>False⟩,bd,v,q⟩ k.n k.body ⟨s1.t,upd s1.o bdL (some (.loop { k with state:=.busy } tm))⟩
      (W2 bdL k tm fun res os'=>res=bl (bst s x).2.isNone∧(I (bst s x).1 os'∧os' bdL=some (.loop (Aph k (bst s x).2) tm))∧∀ n,¬ (F n∨n=bdL)→os' n=os n)) (fun _ _=>False))
theorem Abn.yields {P:Program} {bdL:Nat} {k:G2} {tm:List (Nat × AV)} {v q:List Nat} {F:Nat→Prop} {σ α:Type} {arg:α→AV} {l:List α} {I:σ→(Nat→Option AO)→Prop} {bst:σ→α→σ × Option Code} (h:Abn P bdL k tm v q F arg l I bst) :
    Ai8 P (.yld bdL) (fun n=>F n∨n=bdL) arg l (fun (s:σ × Option Code)=>s.2=none) (fun s os=>I s.1 os∧os bdL=some (.loop (Aph k s.2) tm)) (fun s x=>(bst s.1 x,(bst s.1 x).2.isNone)) where
  live s os hI:=by rw [Sh,hI.2]; rfl
  stable s os os' hI he:=⟨h.stable s.1 os os' hI.1 (fun n hn=>he n (.inl hn)),(he bdL (.inr rfl)).trans hI.2⟩
  foot s os n hI hn:=by
    rcases hn with hn | rfl
    · obtain ⟨o,h1,h2⟩:=h.foot s.1 os n hI.1 hn
      exact ⟨o,h1,fun m hm=>.inl (h2 m hm)⟩
    · exact ⟨_,hI.2,fun m hm=>.inl (h.tmF m hm)⟩
  next s x hx hg hs:=Option.isNone_iff_eq_none.1 hs
  call s x os bd hx hg hI hcl0:=by
    have hloop:os bdL=some (.loop k tm):=by
      have:=hI.2
      rw [hg,← h.ready] at this
      exact this
    intro hfree
    have hb:=Au hfree hloop
    refine Ub (fun hm=>hm) (k:=k) (tm:=tm) (v:=v) (q:=q) hloop (by rw [h.ready]; rfl) (by rw [h.lenp]; rfl) h.psn (fun hcl _ rl=>?_) hfree
    exact h.body s.1 x os bd hx hI.1 hloop hcl hfree hb rl
theorem Bal {P:Program} {σ α:Type} {tS tE tF tI tB:Nat} {arg:α→AV} [Inhabited α] (hS:(Ac P tS).k=.sl tE) (hg:(Ac P tE).agg=some true) {sz:Nat} (hz:(Ac P tE).sz=sz) {fn:Func} {f:Nat} (hf:P.funcs[f]?=some fn) (hb:fn.body=some (Ba1 tS tE tF tI tB)) (hN:fn.ntmps=19) (hrs:fn.results.toList=[.tmp 4]) (hcal:Bh P f=true)
    {fv:AV} {F:Nat→Prop} {l:List α} {I:σ→(Nat→Option AO)→Prop} {step:σ→α→σ × Bool} (hl:l.length < 1000000) (hT:H7 P fv F arg l I step) {s:σ} {os:Nat→Option AO} {bd nb:Nat} {cs:List AV} (hI:I s os) (hnb:os nb=some (.cells cs)) (hnF:¬ F nb) (hld:∀ k,k < l.length→Am true sz (cs.drop (k * sz))=some (arg (l.getD k default))) :
    Bt P bd (.fn (.func f) [] []) [.csl nb 0 sz l.length,fv] os fun res os'=>res=i64 (Je step s l 0).2∧I (Je step s l 0).1 os'∧∀ n,¬ F n→os' n=os n:=by
  refine Ck (v:=[]) (q:=[]) (N:=19) (rs:=[.tmp 4]) hf hb hcal hN hrs (fun hcl hfree=>?_)
  have hfreeI:∀ (s1:σ) os1,I s1 os1→(∀ n,¬ F n→os1 n=os n)→∀ n,bd≤n→os1 n=none:=fun s1 os1 h1 h2 n hn=>by
    by_cases hFn:F n
    · obtain ⟨o,h3,_⟩:=hT.foot s os n hI hFn
      have:=Au hfree h3; omega
    · rw [h2 n hFn]; exact hfree n hn
  have hcsl:∀ {os1:Nat→Option AO},os1 nb=some (.cells cs)→(AV.csl nb 0 sz l.length).lives os1:=fun h m hm=>by
    simp only [AV.clean,bne_eq_false_iff_eq] at hm
    subst hm; rw [h]; rfl
  refine Aa fun K1 hK1=>?_
  refine Ab ?_
  simp (disch:=omega) only [Nat.zero_add,eq_self,amL,sA,sB]
  refine hK1 _ ?_
  refine Aa fun K2 hK2=>?_
  refine Aa fun K3 hK3=>?_
  refine Ab ?_
  simp (disch:=omega) only [hS,eq_self,amL,sA,↓reduceIte,reduceCtorEq]
  refine hK3 _ ?_
  refine Ak ?_
  skip
  refine A5 (α:=Nat × σ × (Nat→Option AO)) (fun x=>⟨T [(0,.csl nb 0 sz l.length),(1,fv),(8,i64 x.1),(7,i64 l.length)],x.2.2⟩) (fun x=>l.length - x.1) (fun x=>x.1≤l.length∧I x.2.1 x.2.2∧(Hp x.2.2).closed∧(∀ n,¬ F n→x.2.2 n=os n)∧Je step x.2.1 (l.drop x.1) x.1=Je step s l 0) (0,s,os) ?_ ?_ (fun x hx4 K4 hK4=>?_)
  · exact ⟨by simp,hI,hcl,fun _ _=>rfl,by simp⟩
  · refine Gx ?_ ?_ ?_ ?_ <;> (try simp (disch:=omega) only [eq_self,amL,sF,↓reduceIte,reduceCtorEq]); all_goals first | exact hcl | exact Sub.refl _ | exact hT.live _ _ hI | exact ⟨by rw [hnb]; rfl,hT.live _ _ hI⟩ | trace_state
  obtain ⟨k,s1,os1⟩:=x; dsimp only at hx4 ⊢; obtain ⟨hk,hI1,hcl1,hfr1,hsc⟩:=hx4; have hnb1:os1 nb=some (.cells cs):=(hfr1 nb hnF).trans hnb
  refine Aa fun K5 hK5=>?_
  refine Ab ?_
  simp (disch:=omega) only [eq_self,amL,sA,sF,↓reduceIte,reduceCtorEq]
  refine hK5 _ ?_
  refine Aa fun K6 hK6=>?_
  refine Ag rfl (fun h=>?_) (fun h=>?_)
  ·first
   | exact Bool.noConfusion h
   |skip
    try simp only [decide_eq_true_eq] at h
    refine Ah ?_
    refine hK6 _ ?_
    refine Aa fun K7 hK7=>?_
    refine Ak ?_
    refine Aa fun K8 hK8=>?_
    refine Ab ?_
    simp (disch:=omega) only [eq_self,amL,sA,sF,↓reduceIte,reduceCtorEq]
    refine hK8 _ ?_
    refine Aa fun K9 hK9=>?_
    refine Ab ?_
    simp (disch:=omega) only [hnb1,hS,hz,hg,hld,Nat.zero_add,eq_self,amL,sA,sF,↓reduceIte,reduceCtorEq]
    refine A6 [(0,.csl nb 0 sz l.length),(1,fv),(5,i64 k),(8,i64 k),(7,i64 l.length)] (by decide) (hT.call s1 (l.getD k default) os1 bd (Ad2 default (by omega)) hI1 hcl1) (hfreeI _ _ hI1 hfr1) (Nat.le_refl _) (fun res os2 hR hcl2 hlv2=>?_)
    obtain ⟨rfl,hI2,hfr2⟩:=hR
    have hv2:=hT.live _ _ hI2
    have hnb2:os2 nb=some (.cells cs):=(hfr2 nb hnF).trans hnb1
    simp (disch:=omega) only [eq_self,amL,sF,↓reduceIte,reduceCtorEq]
    refine ⟨⟨by rw [hnb2]; rfl,hv2⟩,?_⟩
    refine hK9 _ ?_
    refine Ag rfl (fun h=>?_) (fun h=>?_)
    ·first
     | exact Bool.noConfusion h
     |skip
      try simp only [Bool.not_eq_true',decide_eq_true_eq,decide_eq_false_iff_not,Bool.and_eq_true,Bool.not_eq_false',Bool.not_not,decide_not,Bool.not_true,Bool.not_false] at h
      refine Aa fun K10 hK10=>?_
      refine Ab ?_
      simp (disch:=omega) only [eq_self,amL,sA,sF,↓reduceIte,reduceCtorEq]
      refine hK10 _ ?_
      refine Ae ?_
      try simp (disch:=omega) only [amL]
      first | (refine Ba (res:=i64 _) os1 (by simp (disch:=omega) only [eq_self,amL,↓reduceIte]; try rfl) (Sub.refl _) hcl1 (AV.lives_p _ _) ?_ ; rw [Pq (by omega) hsc]; exact ⟨rfl,hI1,hfr1⟩) | (refine Ba (res:=i64 _) os2 (by simp (disch:=omega) only [eq_self,amL,↓reduceIte]; try rfl) (Sub.refl _) hcl2 (AV.lives_p _ _) ?_ ; rw [M3 default (by omega) h hsc]; exact ⟨rfl,hI2,fun n hn=>(hfr2 n hn).trans (hfr1 n hn)⟩)
    ·first
     | exact Bool.noConfusion h
     |skip
      try simp only [Bool.not_eq_true',decide_eq_true_eq,decide_eq_false_iff_not,Bool.and_eq_true,Bool.not_eq_false',Bool.not_not,decide_not,Bool.not_true,Bool.not_false] at h
      refine Ah ?_
      refine hK7 _ ?_
      refine Ab ?_
      simp (disch:=omega) only [eq_self,amL,sA,sF,↓reduceIte,reduceCtorEq]
      refine hK4 (k+1,(step s1 (l.getD k default)).1,os2) _ ?_ ?_ (Gx ?_ ?_ ?_ ?_)
      all_goals (try simp (disch:=omega) only [eq_self,amL,sF,↓reduceIte,reduceCtorEq])
      all_goals first | exact ⟨by omega,hI2,hcl2,fun n hn=>(hfr2 n hn).trans (hfr1 n hn),Yu default (by omega) h hsc⟩ | omega | exact hcl2 | exact Sub.refl _ | exact hv2 | exact ⟨by rw [hnb2]; rfl,hv2⟩ | trace_state
  ·first
   | exact Bool.noConfusion h
   |skip
    try simp only [decide_eq_false_iff_not] at h
    refine Bc ?_
    refine hK2 _ ?_
    refine Aa fun K11 hK11=>?_
    refine Ab ?_
    simp (disch:=omega) only [eq_self,amL,sA,sM]
    refine hK11 _ ?_
    refine Ae ?_
    try simp (disch:=omega) only [amL,sM]
    first | (refine Ba (res:=i64 _) os1 (by simp (disch:=omega) only [eq_self,amL,sM,↓reduceIte]; try rfl) (Sub.refl _) hcl1 (AV.lives_p _ _) ?_ ; rw [Pq (by omega) hsc]; exact ⟨rfl,hI1,hfr1⟩) | (refine Ba (res:=i64 _) os2 (by simp (disch:=omega) only [hS,hz,hg,hld,Nat.zero_add,eq_self,amL,sA,sB,sC,sD,sE,sF,sG,sH,sI,sJ,sK,sL,sM,sN,sO,↓reduceIte,reduceCtorEq]; try rfl) (Sub.refl _) hcl2 (AV.lives_p _ _) ?_ ; rw [M3 default (by omega) h hsc]; exact ⟨rfl,hI2,fun n hn=>(hfr2 n hn).trans (hfr1 n hn)⟩)
theorem Bb5 {P:Program} {σ α:Type} {tS tE tF tI tB:Nat} {arg:α→AV} [Inhabited α] (hS:(Ac P tS).k=.sl tE) (hg:(Ac P tE).agg=some true) {sz:Nat} (hz:(Ac P tE).sz=sz) {fI fC:Nat} (hF:Pe P tS tE tF tI tB fI fC)
    {fv:AV} {F:Nat→Prop} {l:List α} {I:σ→(Nat→Option AO)→Prop} {step:σ→α→σ × Bool} (hl:l.length < 1000000) (hT:H7 P fv F arg l I step) {s:σ} {os:Nat→Option AO} {bd nb:Nat} {cs:List AV} (hI:I s os) (hnb:os nb=some (.cells cs)) (hnF:¬ F nb) (hld:∀ k,k < l.length→Am true sz (cs.drop (k * sz))=some (arg (l.getD k default))) :
    Bt P bd (.fn (.func fC) [] []) [.csl nb 0 sz l.length,fv] os fun res os'=>res=bl (decide (0≤(Je step s l 0).2))∧I (Je step s l 0).1 os'∧∀ n,¬ F n→os' n=os n:=by
  obtain ⟨fi,i1,i2,i3,i4,i5⟩:=hF.i
  obtain ⟨fn,hf,hb,hN,hrs,hcal⟩:=hF.c
  have cI:=Bal hS hg hz i1 i2 i3 i4 i5 hl hT (bd:=bd) hI hnb hnF hld
  refine Ck (v:=[fI]) (q:=[]) (N:=9) (rs:=[.tmp 4]) hf hb hcal hN hrs (fun hcl hfree=>?_)
  refine Aa fun K1 hK1=>?_
  refine Ab ?_
  simp (disch:=omega) only [amL,sA,sB]
  refine hK1 _ ?_
  refine Aa fun K2 hK2=>?_
  refine Ab ?_
  simp (disch:=omega) only [amL,sA,sF,↓reduceIte,reduceCtorEq]
  refine A6 [] (by decide) cI hfree (Nat.le_refl _) (fun res os2 hR hcl2 hlv2=>?_)
  obtain ⟨rfl,hI2,hfr2⟩:=hR
  simp (disch:=omega) only [amL,sA,↓reduceIte]
  refine hK2 _ ?_
  refine Ae ?_
  try simp (disch:=omega) only [amL]
  refine Ba (res:=bl _) os2 (by simp (disch:=omega) only [amL,↓reduceIte]; try rfl) (Sub.refl _) hcl2 (AV.lives_p _ _) ⟨rfl,hI2,hfr2⟩
theorem Ac8 {α:Type} {g:α→Bool}:∀ (l:List α) (k:Nat),decide (0≤(Je (fun (_:Unit) x=>((),g x)) () l k).2)=l.any g
  | [],k=>rfl
  | x :: l,k=>by
    simp only [Je,List.any_cons]
    cases h:g x with
    | true=>simp
    | false=>simp only [Bool.false_eq_true,if_false,Bool.false_or]; exact Ac8 l (k+1)
theorem Afb {l:List (Nat × AV)} {os:Nat→Option AO} {n k:Nat} {es:List (List PV)} (hcl:(Hp os).closed) (hn:os n=none):St.frz n es ⟨T l,upd os n (some (.arr k es))⟩=⟨T (Mv n es l),os⟩:=by
  unfold St.frz
  rw [Aos]
  congr 1
  funext m
  by_cases e:m=n
  · subst e; rw [if_pos rfl,hn]
  · rw [if_neg e]
    show (upd os n _ m).map _=_
    rw [Ad e]
    cases ho:os m with
    | none=>rfl
    | some o=>
      rw [Option.map_some,AO.frz_id o]
      cases hc:o.clean n with
      | true=>rfl
      | false=>
        have:(os n).isSome=true:=hcl.2 m o ho n hc
        rw [hn] at this; cases this
theorem Amd {P:Program} {r:RB} {N:Nat} {ops:List Oper} {id:Nat} {st:St} {Q:AEx→St→Prop} (cfs:List Cf) (dx:List Nat) (hm:P.follows .mixedOrders=true) (hchk:Rv P r.v r.q ops cfs=true) (hdx:Qp P ops=dx) (hfr:Adk st.o r.b dx) (h:EL P r N ops ops st (fun s=>(cfs.all fun c=>c.ok s.t)=true∧Q .normal s)):AWP P r N (.region id ops.toArray true) st Q:=
  Afu cfs hm hchk (fun d hd=>Tj hfr d (by rw [← hdx]; exact hd)) h
theorem Wg {P:Program} {r:RB} {N:Nat} {c:Code} {l:List (Nat × AV)} {os:Nat→Option AO} {Q:AEx→St→Prop} (n k i:Nat) (hn4:r.b≤n) (hi:T l i=.p (.val (.slice none 0 0))) (hfree:os n=none)
    (h:AWP P r N c ⟨T ((i,.own n 0) :: l),upd os n (some (.arr k []))⟩ Q):AWP P r N c ⟨T l,os⟩ Q:=Aay n k i hn4 hi hfree h
theorem Ad4 {P:Program} {r:RB} {N:Nat} {c:Code} {l:List (Nat × AV)} {os:Nat→Option AO} {n k:Nat} {es:List (List PV)} {Q:AEx→St→Prop} (hcl:(Hp os).closed) (hn:os n=none) (h:AWP P r N c ⟨T (Mv n es l),os⟩ Q):AWP P r N c ⟨T l,upd os n (some (.arr k es))⟩ Q:=
  Ai3 n (k:=k) (es:=es) (by show upd os n _ n=_; rw [Bp]) (by rw [Afb hcl hn]; exact h)
def pgO (n:Nat) (os:Nat→Option AO):Nat→Option AO:=fun m=>if m=n then none else (os m).map (AO.purge n)
theorem Jr {n:Nat} {l:List (Nat × AV)} {os:Nat→Option AO}:St.purge n ⟨T l,os⟩=⟨T (Ter n l),pgO n os⟩:=by
  rw [← Ach]; rfl
theorem Pv {n m:Nat} {os:Nat→Option AO} {o:AO} (h:m≠n):pgO n (upd os m (some o))=upd (pgO n os) m (some (o.purge n)):=by
  funext k
  by_cases e:k=m
  · subst e; rw [Bp]; unfold pgO; rw [if_neg h,Bp]; rfl
  · rw [Ad e]; unfold pgO; rw [Ad e]
theorem Mc {n:Nat} {os:Nat→Option AO} {x:Option AO}:pgO n (upd os n x)=pgO n os:=by
  funext k
  unfold pgO
  by_cases e:k=n
  · rw [if_pos e,if_pos e]
  · rw [if_neg e,if_neg e,Ad e]
theorem Aes {n:Nat} {os:Nat→Option AO} (hcl:(Hp os).closed) (hn:os n=none):pgO n os=os:=by
  funext m
  unfold pgO
  by_cases e:m=n
  · subst e; rw [if_pos rfl,hn]
  · rw [if_neg e]
    cases ho:os m with
    | none=>rfl
    | some o=>
      have hc:o.clean n=true:=by
        cases hc:o.clean n with
        | true=>rfl
        | false=>
          have:(os n).isSome=true:=hcl.2 m o ho n hc
          rw [hn] at this; cases this
      cases o with
      | cells cs=>show some (AO.cells (cs.map _))=_; rw [Mo hc]
      | arr k es=>rfl
      | obj X=>rfl
      | it m X=>
        have hmn:m≠n:=by simpa [AO.clean] using hc
        show some (if m=n then _ else _)=_
        rw [if_neg hmn]
      | loop k tm=>
        show some (AO.loop k (tm.map fun p=>(p.1,p.2.purge n)))=_
        congr 2
        have hc:AV.clean.cleanL n (tm.map (·.2))=true:=hc
        clear ho
        induction tm with
        | nil=>rfl
        | cons p tm ih=>
          have h':p.2.clean n=true∧AV.clean.cleanL n (tm.map (·.2))=true:=by simpa [AV.clean.cleanL] using hc
          rw [List.map_cons,ih h'.2 h'.2]
          congr 1
          unfold AV.purge
          rw [if_pos h'.1]
end AM
end
/- The abstract machine, part 69: several slice literals of a region are values at once. -/
section
namespace AM
open Go
section
variable {P:Program} {r:RB} {N:Nat} {s:St} {K:St→Prop} {dst:Option Nat} {ty:TypeId} {pos:String} {after:Array Edge} {all rest:List Oper}
def ELm (P:Program) (r:RB) (N:Nat) (all:List Oper):List Bool→List Oper→St→(St→Prop)→Prop
 | [],l,s,K=>EL P r N all l s K
 | true :: fs,o :: rest,s,K=>o.guard=none∧EPb P N o s fun s'=>ELm P r N all fs rest s' K
 | false :: fs,o :: rest,s,K=>o.guard=none∧EO P r N o s fun s'=>ELm P r N all fs rest s' K
 | _ :: _,[],_,_=>False
theorem Tn:∀ {l:List Oper} {fs:List Bool} {s:St} {K:St→Prop},ELm P r N all fs l s K→AL P r N all l s K
 | l,[],s,K,h=>by unfold ELm at h; exact D3 h
 | ⟨dst,op,ty,pos,after,g⟩ :: rest,true :: fs,s,K,h=>by
  obtain ⟨h1,h2⟩:=h
  have h1:g=none:=h1
  subst h1
  exact AL.step ((Zh h2).mono fun s' h'=>Tn h')
 | ⟨dst,op,ty,pos,after,g⟩ :: rest,false :: fs,s,K,h=>by
  obtain ⟨h1,h2⟩:=h
  have h1:g=none:=h1
  subst h1
  exact AL.step ((F9 h2).mono fun s' h'=>Tn h')
 | [],true :: _,_,_,h=>h.elim
 | [],false :: _,_,_,h=>h.elim
theorem Y9 (fs:List Bool) {Q:AEx→St→Prop} {id:Nat} {ops:List Oper} (h:ELm P r N ops fs ops s (Q .normal)):AWP P r N (.region id ops.toArray false) s Q:=Dr (Tn h)
def EKm (P:Program) (r:RB) (N:Nat) (all:List Oper) (fs:List Bool) (rest:List Oper) (K:St→Prop) (s:St):Prop:=ELm P r N all fs rest s K
theorem Xj {t:Nat→AV} {o:Nat→Option AO} {fs:List Bool}:EKm P r N all fs rest K ⟨t,o⟩=ELm P r N all fs rest ⟨t,o⟩ K:=rfl
theorem Aje:ELm P r N all [] rest s K=EL P r N all rest s K:=by unfold ELm; rfl
theorem Ae2 {o:Op} {fs:List Bool}:ELm P r N all (true :: fs) (⟨dst,o,ty,pos,after,none⟩ :: rest) s K=EPb P N ⟨dst,o,ty,pos,after,none⟩ s (EKm P r N all fs rest K):=propext ⟨fun h=>h.2,fun h=>⟨rfl,h⟩⟩
theorem Ac2 {o:Op} {fs:List Bool}:ELm P r N all (false :: fs) (⟨dst,o,ty,pos,after,none⟩ :: rest) s K=EO P r N ⟨dst,o,ty,pos,after,none⟩ s (EKm P r N all fs rest K):=propext ⟨fun h=>h.2,fun h=>⟨rfl,h⟩⟩
end
end AM
end
/- What the reference says of vessels, in plain Lean; that it is what the program says. -/
section
namespace AM.Wort
open Go AM
def Ky (e g:Int):Int:=if g=0 then 0 else if g≤2 * (e - e / g * g) then e / g+1 else e / g
theorem Asr {l:Liq} (hg:0≤l.g):Ky l.e l.g=Nf l:=by
 obtain ⟨g,e⟩:=l
 unfold Ky Nf
 dsimp only at hg ⊢
 split
 ·rfl
 ·rename_i h
  have hp:0 < g:=by omega
  have h1:=Int.mul_ediv_add_emod e g
  have h2:=Int.emod_nonneg e h
  have h3:=Int.emod_lt_of_pos e hp
  rw [Int.mul_comm] at h1
  generalize e / g=q at *
  generalize e % g=r at *
  have e0:q * (2 * g)=2 * (q * g):=by rw [← Int.mul_assoc,Int.mul_comm q 2,Int.mul_assoc]
  have e1:2 * e+g=(2 * r+g)+q * (2 * g):=by omega
  rw [e1,Int.add_mul_ediv_right _ _ (by omega)]
  split
  ·have a1:1≤(2 * r+g) / (2 * g):=Int.le_ediv_of_mul_le (by omega) (by omega)
   have a2:(2 * r+g) / (2 * g) < 2:=Int.ediv_lt_of_lt_mul (by omega) (by omega)
   omega
  ·rw [Int.ediv_eq_zero_of_lt (by omega) (by omega)]; omega
def Qj:List Ves→List Int→Nat→Bool
 | [],_,_=>true
 | x :: vs,gs,i=>decide (gs.getD i 0≤x.room)&&Qj vs gs (i+1)
def Ls:List Ves→List Int→List Int→Nat→List Liq
 | [],_,_,_=>[]
 | _ :: vs,gs,ds,i=>⟨gs.getD i 0,gs.getD i 0 * ds.getD i 0⟩ :: Ls vs gs ds (i+1)
def Xr:List Ves→List Int→List Int→Nat→List Liq→List Liq
 | [],_,_,_,v=>v
 | _ :: vs,gs,ds,i,v=>Xr vs gs ds (i+1) (v.set i ⟨gs.getD i 0,gs.getD i 0 * ds.getD i 0⟩)
theorem Ako {vs:List Ves} {gs:List Int} {k:Nat} (h:k < vs.length):Qj (vs.drop k) gs k=(decide (gs.getD k 0≤(vs.getD k default).room)&&Qj (vs.drop (k+1)) gs (k+1)):=by
 have:vs.drop k=vs.getD k default :: vs.drop (k+1):=by rw [List.drop_eq_getElem_cons h]; simp [List.getD,h]
 rw [this]; rfl
theorem Anh {vs:List Ves} {gs ds:List Int} {k:Nat} (h:k < vs.length):Ls (vs.drop k) gs ds k=⟨gs.getD k 0,gs.getD k 0 * ds.getD k 0⟩ :: Ls (vs.drop (k+1)) gs ds (k+1):=by
 have:vs.drop k=vs.getD k default :: vs.drop (k+1):=by rw [List.drop_eq_getElem_cons h]; simp [List.getD,h]
 rw [this]; rfl
theorem Asg {vs:List Ves} {gs:List Int} {k:Nat} (h:vs.length≤k):Qj (vs.drop k) gs k=true:=by rw [List.drop_of_length_le h]; rfl
theorem Apj {vs:List Ves} {gs ds:List Int} {k:Nat} (h:vs.length≤k):Ls (vs.drop k) gs ds k=[]:=by rw [List.drop_of_length_le h]; rfl
theorem Zj:∀ {vs:List Ves} {gs ds:List Int} {i:Nat} {v:List Liq},i+vs.length≤v.length→(Xr vs gs ds i v).take (i+vs.length)=v.take i++Ls vs gs ds i
 | [],_,_,_,_,_=>by simp [Xr,Ls]
 | x :: vs,gs,ds,i,v,h=>by
  simp only [List.length_cons] at h
  unfold Xr Ls
  have:=Zj (vs:=vs) (gs:=gs) (ds:=ds) (i:=i+1) (v:=v.set i ⟨gs.getD i 0,gs.getD i 0 * ds.getD i 0⟩) (by rw [List.length_set]; omega)
  rw [show i+(x :: vs).length=i+1+vs.length by simp only [List.length_cons]; omega,this,List.take_add_one,List.take_set,List.getElem?_set_self (by omega)]
  rw [List.set_eq_of_length_le (by rw [List.length_take]; omega)]
  simp
theorem Ai2:∀ {vs:List Ves} {gs ds:List Int} {i:Nat} {v:List Liq},i+vs.length≤4→(∀ k,0≤gs.getD k 0∧gs.getD k 0≤60)→(∀ k,0≤ds.getD k 0∧ds.getD k 0≤120) →
  OkV v→tot v≤7200 * (i:Int)→(∀ k,i≤k→(v.getD k default).e=0)→OkV (Xr vs gs ds i v)
 | [],_,_,_,_,_,_,_,h,_,_=>h
 | x :: vs,gs,ds,i,v,hi,hg,hd,h,ht,hz=>by
  unfold Xr
  have g1:=hg i
  have d1:=hd i
  have e1:0≤gs.getD i 0 * ds.getD i 0:=Int.mul_nonneg g1.1 d1.1
  have e2:gs.getD i 0 * ds.getD i 0≤7200:=by
   have:=Int.mul_le_mul g1.2 d1.2 d1.1 (by omega); omega
  have hz0:=hz i (Nat.le_refl _)
  have hl:=h.len
  simp only [List.length_cons] at hi
  have t2:tot (v.set i ⟨gs.getD i 0,gs.getD i 0 * ds.getD i 0⟩)=tot v - (v.getD i default).e+gs.getD i 0 * ds.getD i 0:=Se (by omega)
  refine Ai2 (by omega) hg hd (h.set (by omega) g1 e1 (by show _ - _+gs.getD i 0 * ds.getD i 0≤_; rw [hz0]; omega)) (by rw [t2,hz0]; omega) fun k hk=>?_
  rw [Fu,if_neg (by omega)]
  exact hz k (by omega)
def OkN (n:Nat) (v:List Liq):Prop:=∃ w,OkV w∧v=w.take n
def Nq (vs:List Ves) (gs ds:List Int):List Liq:=Ls vs gs ds 0
theorem Y6 {b:Cx} {t:Tru} (hv:Ja b) (h:C1 b t=true):OkN b.vs.length (Nq b.vs t.g t.d):=by
 obtain ⟨h1,h2,_⟩:=F3 hv h
 refine ⟨Xr b.vs t.g t.d 0 v0,Ai2 (by have:=hv.nv; omega) h1 h2 Ain (by decide) fun k _=>?_,?_⟩
 ·match k with
  | 0=>rfl
  | 1=>rfl
  | 2=>rfl
  | 3=>rfl
  | k+4=>rfl
 ·have:=Zj (vs:=b.vs) (gs:=t.g) (ds:=t.d) (i:=0) (v:=v0) (by have:=hv.nv; simp; omega)
  rw [Nat.zero_add] at this
  exact this.symm
def Zg (vs:List Ves) (gs:List Int):Bool:=Qj vs gs 0
def Vl (vs:List Ves) (v:List Liq):Prop:=∀ k,k < vs.length→(A8 v k).g≤(vs.getD k default).room
theorem OkN.len {n:Nat} {v:List Liq} (h:OkN n v) (hn:n≤4):v.length=n:=by
 obtain ⟨w,hw,rfl⟩:=h
 rw [List.length_take,hw.len]; omega
theorem G6 {w:List Liq} {n k:Nat} (h:k < n):A8 (w.take n) k=A8 w k:=by
 unfold A8
 rw [List.getD_eq_getElem?_getD,List.getD_eq_getElem?_getD,List.getElem?_take,if_pos h]
theorem OkN.at {n:Nat} {v:List Liq} (h:OkN n v) (k:Nat):(0≤(A8 v k).g∧(A8 v k).g≤60)∧0≤(A8 v k).e∧(A8 v k).e≤28800:=by
 obtain ⟨w,hw,rfl⟩:=h
 by_cases hk:k < n
 ·rw [G6 hk]
  have:=Aho hw.e k
  have:=hw.t
  exact ⟨hw.g k,hw.e k,by unfold A8; omega⟩
 ·have:A8 (w.take n) k=⟨0,0⟩:=by
   unfold A8
   rw [List.getD_eq_getElem?_getD,List.getElem?_eq_none (by rw [List.length_take]; omega)]; rfl
  rw [this]; decide
theorem Ws {w:List Liq} {n k:Nat} {a:Liq}:(w.take n).set k a=(w.set k a).take n:=by rw [List.take_set]
theorem Atc {vs:List Ves} {w:List Liq} {s:Stp} {m:Int} (hs:Dm vs.length s=true):doS vs (w.take vs.length) s m=((doS vs w s m).1.take vs.length,(doS vs w s m).2):=by
 obtain ⟨hk,hf,ht,_,_⟩:=Cd hs
 have f1:s.frm.toNat < vs.length:=by omega
 have t1:s.to.toNat < vs.length:=by omega
 have a:Fc (w.take vs.length) s m=((Fc w s m).1.take vs.length,(Fc w s m).2):=by
  unfold Fc
  split
  ·unfold Ex
   rw [G6 f1]
   split
   ·rfl
   ·split
    ·simp only [Hy,G8,Fk,G6 f1,Ws]
     rw [G6 t1]
    ·rfl
  ·split
   ·simp only [Lb,G6 t1,Ws]
   ·simp only [Qm,G6 f1,Ws]
 simp only [doS,a]
 rw [G6 t1]
def doX (vs:List Ves) (v:List Liq) (s:Stp) (n:Int):List Liq × Bool:=if (doS vs v s n).2=true then doS vs v s n else (v,false)
theorem Baa {vs:List Ves} {v:List Liq} {s:Stp} {n:Int} (h:OkN vs.length v) (hvs:vs.length≤4) (hv:vs.all Df=true) (hs:Dm vs.length s=true) (hn:0≤n):OkN vs.length (doX vs v s n).1:=by
 unfold doX; split
 ·rename_i hd
  obtain ⟨w,hw,rfl⟩:=h
  rw [Atc hs] at hd ⊢
  exact ⟨_,Ajk hw hvs hv hs hn hd,rfl⟩
 ·exact h
theorem App {vs:List Ves} {v:List Liq} {s:Stp} {n:Int} (h:Vl vs v) (hs:Dm vs.length s=true) (hn:0≤n) (_:v.length=vs.length):∀ k,k < vs.length→k≠s.to.toNat→(A8 (Fc v s n).1 k).g≤(vs.getD k default).room:=by
 intro k hk hne
 have hr:=h k hk
 obtain ⟨_,hf,ht,hft,_⟩:=Cd hs
 unfold Fc
 split
 ·unfold Ex
  split
  ·exact hr
  ·split
   ·unfold Hy G8
    rw [Ek,if_neg (fun e=>hne e.1),Ek]
    split
    ·rename_i e; rw [e.1] at hr ⊢; show _ - n≤_; omega
    ·exact hr
   ·exact hr
 ·split
  ·unfold Lb
   rw [Ek,if_neg (fun e=>hne e.1)]; exact hr
  ·unfold Qm
   rw [Ek]
   split
   ·rename_i e; rw [e.1] at hr ⊢; show _ - n≤_; omega
   ·exact hr
theorem Aor {vs:List Ves} {v:List Liq} {s:Stp} {n:Int} (h:Vl vs v) (hs:Dm vs.length s=true) (hn:0≤n) (hl:v.length=vs.length):Vl vs (doX vs v s n).1:=by
 unfold doX; split
 ·rename_i hd
  intro k hk
  simp only [doS,Bool.and_eq_true,decide_eq_true_eq] at hd ⊢
  by_cases e:k=s.to.toNat
  ·rw [e]; exact hd.2
  ·exact App h hs hn hl k hk e
 ·exact h
def Mq (vs:List Ves) (m:List Int):List Stp→Nat→List Liq × Bool→List Liq × Bool
 | [],_,r=>r
 | s :: ss,i,r=>if r.2=false then r else Mq vs m ss (i+1) (doX vs r.1 s (m.getD i 0))
def An3 (b:Cx) (t:Tru):List Liq × Bool:=Mq b.vs t.m b.ss 0 (Nq b.vs t.g t.d,Zg b.vs t.g)
theorem Aht {vs:List Ves} {m:List Int} {ss:List Stp} {k:Nat} {r R:List Liq × Bool} (h:k < ss.length) (hr:r.2=true) (hp:Mq vs m (ss.drop k) k r=R):Mq vs m (ss.drop (k+1)) (k+1) (doX vs r.1 (ss.getD k default) (m.getD k 0))=R:=by
 have:ss.drop k=ss.getD k default :: ss.drop (k+1):=by rw [List.drop_eq_getElem_cons h]; simp [List.getD,h]
 rw [this] at hp; unfold Mq at hp; rw [if_neg (by rw [hr]; decide)] at hp; exact hp
theorem Ag5 {vs:List Ves} {m:List Int} {ss:List Stp} {k:Nat} {r R:List Liq × Bool} (h:k < ss.length) (hr:r.2=false) (hp:Mq vs m (ss.drop k) k r=R):R=r:=by
 have:ss.drop k=ss.getD k default :: ss.drop (k+1):=by rw [List.drop_eq_getElem_cons h]; simp [List.getD,h]
 rw [this] at hp; unfold Mq at hp; rw [if_pos hr] at hp; exact hp.symm
theorem Ak0 {vs:List Ves} {m:List Int} {ss:List Stp} {k:Nat} {r R:List Liq × Bool} (h:ss.length≤k) (hp:Mq vs m (ss.drop k) k r=R):R=r:=by
 rw [List.drop_of_length_le h] at hp; exact hp.symm
def Nl (l:List Ves):List Rng:=l.flatMap fun v=>[v.g,v.d]
theorem Jc (a b:List Rng) (n:Int):Dg (a++b) n=Dg b (Dg a n):=by
 induction a generalizing n with
 | nil=>rfl
 | cons x a ih=>exact ih _
theorem Ago {a b:List Rng} (h:a.Perm b):∀ n,Dg a n=Dg b n:=by
 induction h with
 | nil=>intro n; rfl
 | cons x _ ih=>intro n; exact ih _
 | swap x y l=>intro n; show Dg l (n * _ * _)=Dg l (n * _ * _); rw [Int.mul_assoc,Int.mul_comm (Dp y),← Int.mul_assoc]
 | trans _ _ ih1 ih2=>intro n; rw [ih1,ih2]
theorem Aas:∀ l:List Ves,(Nl l).Perm (l.map (·.g)++l.map (·.d))
 | []=>.nil
 | v :: l=>by
  show (v.g :: v.d :: Nl l).Perm (v.g :: (l.map (·.g)++v.d :: l.map (·.d)))
  exact .cons _ ((List.Perm.cons _ (Aas l)).trans List.perm_middle.symm)
def Ao0 (b:Cx):Int:=Dg (Nl b.vs++b.ss.map (·.g)) 1
theorem Apa (b:Cx):Ao0 b=Pb b:=Ago ((Aas b.vs).append_right _) 1
theorem Aok {l:List Ves} {k:Nat} (h:k < l.length):Dg (Nl (l.take (k+1))) 1=Dg (Nl (l.take k)) 1 * (Dp (l.getD k default).g * Dp (l.getD k default).d):=by
 rw [List.take_add_one,List.getElem?_eq_getElem h]
 unfold Nl
 rw [List.flatMap_append,Jc]
 simp [Dg,List.getD,h,Int.mul_assoc]
theorem Agp {l:List Stp} {k:Nat} {n:Int} (h:k < l.length):Dg ((l.take (k+1)).map (·.g)) n=Dg ((l.take k).map (·.g)) n * Dp (l.getD k default).g:=by
 rw [List.take_add_one,List.getElem?_eq_getElem h,List.map_append,Jc]
 simp [Dg,List.getD,h]
theorem Ai4 (l:List Ves):(Nl l).length=2 * l.length:=by
 induction l with
 | nil=>rfl
 | cons v l ih=>show (v.g :: v.d :: Nl l).length=_; simp only [List.length_cons,ih]; omega
theorem Ada {l:List Rng} (hl:∀ r ∈ l,1≤Dp r∧Dp r≤3) (hn:l.length≤14):1≤Dg l 1∧Dg l 1≤4782969:=by
 have h:=Q7 hl l.length (Nat.le_refl _)
 rw [List.take_length] at h
 exact ⟨h.1,Int.le_trans h.2 (Ajy hn)⟩
theorem Am3 {b:Cx} (hv:b.vs.all Df=true) (hn:b.vs.length≤4) (k:Nat):1≤Dg (Nl (b.vs.take k)) 1∧Dg (Nl (b.vs.take k)) 1≤4782969:=by
 refine Ada (fun r hr=>?_) (by rw [Ai4,List.length_take]; omega)
 simp only [Nl,List.mem_flatMap,List.mem_cons,List.not_mem_nil,or_false] at hr
 obtain ⟨v,hv',hr⟩:=hr
 have hp:=Cp (List.all_eq_true.1 hv v (List.mem_of_mem_take hv'))
 rcases hr with rfl | rfl
 ·exact D2 hp.1
 ·exact D2 hp.2.1
theorem Agb {b:Cx} (hv:Ja b) (k:Nat):1≤Dg (Nl b.vs++(b.ss.take k).map (·.g)) 1∧Dg (Nl b.vs++(b.ss.take k).map (·.g)) 1≤4782969:=by
 refine Ada (fun r hr=>?_) (by have:=hv.nv; have:=hv.ns; rw [List.length_append,Ai4,List.length_map,List.length_take]; omega)
 rw [List.mem_append] at hr
 rcases hr with hr | hr
 ·simp only [Nl,List.mem_flatMap,List.mem_cons,List.not_mem_nil,or_false] at hr
  obtain ⟨v,hv',hr⟩:=hr
  have hp:=Cp (List.all_eq_true.1 hv.v v hv')
  rcases hr with rfl | rfl
  ·exact D2 hp.1
  ·exact D2 hp.2.1
 ·obtain ⟨s,hs,rfl⟩:=List.mem_map.1 hr
  exact D2 (Cd (List.all_eq_true.1 hv.s s (List.mem_of_mem_take hs))).2.2.2.2
section
variable {α:Type} {p:α→Bool} {l:List α} {k:Nat} {d:α}
theorem Zn (hk:k < l.length) (h:(l.take k).all p=true) (hp:p (l.getD k d)=true):(l.take (k+1)).all p=true:=by
 rw [List.take_add_one,List.all_append,h]
 simp [hk,List.getD] at hp ⊢
 exact hp
theorem D7 (hk:k < l.length) (hp:p (l.getD k d)=false):l.all p=false:=by
 have:l.getD k d ∈ l:=by rw [← List.getElem_eq_getD (h:=hk)]; exact List.getElem_mem _
 cases h:l.all p with
 | false=>rfl
 | true=>rw [List.all_eq_true] at h; rw [h _ this] at hp; cases hp
theorem Y2 (hk:l.length≤k) (h:(l.take k).all p=true):l.all p=true:=by rwa [List.take_of_length_le hk] at h
end
theorem Th {b:Cx} (h:4 < b.vs.length∨6 < b.ss.length):B5 b=3:=by unfold B5; rw [if_pos h]
theorem Fj {b:Cx} (h:¬ (4 < b.vs.length∨6 < b.ss.length)) (h2:b.vs.length=0∨b.vs.all Df=false∨b.ss.all (Dm b.vs.length)=false):B5 b=1:=by
 unfold B5; rw [if_neg h]
 split
 ·rfl
 ·rename_i h3
  rcases h2 with h2 | h2 | h2
  ·exact absurd h2 h3
  ·rw [if_pos h2]
  ·split
   ·rfl
   ·first | rfl | rw [if_pos h2]
theorem E5 {b:Cx} (h:b.vs.length≤4) (h1:b.ss.length≤6) (h2:0 < b.vs.length) (hv:b.vs.all Df=true) (hs:b.ss.all (Dm b.vs.length)=true):B5 b=if 2000 < Ao0 b then 3 else 0:=by
 unfold B5; rw [if_neg (by omega),if_neg (by omega),if_neg (by rw [hv]; decide),if_neg (by rw [hs]; decide),Apa]
theorem Jl {b:Cx} {t:Tru} {k:Nat} (hk:k < b.vs.length) (h:inB (t.g.getD k 0) (b.vs.getD k default).g.lo (b.vs.getD k default).g.hi=false∨inB (t.d.getD k 0) (b.vs.getD k default).d.lo (b.vs.getD k default).d.hi=false):C1 b t=false:=by
 cases hl:C1 b t with
 | false=>rfl
 | true=>
  obtain ⟨_,_,_,h4,_⟩:=Cg hl
  have:=h4 k hk
  simp only [inB,Bool.and_eq_false_iff,decide_eq_false_iff_not] at h
  omega
theorem Jk {b:Cx} {t:Tru} {k:Nat} (hk:k < b.ss.length) (h:inB (t.m.getD k 0) (b.ss.getD k default).g.lo (b.ss.getD k default).g.hi=false):C1 b t=false:=by
 cases hl:C1 b t with
 | false=>rfl
 | true=>
  obtain ⟨_,_,_,_,h5⟩:=Cg hl
  have:=h5 k hk
  simp only [inB,Bool.and_eq_false_iff,decide_eq_false_iff_not] at h
  omega
theorem Du {b:Cx} {t:Tru} (h:t.g.length≠b.vs.length∨t.d.length≠b.vs.length∨t.m.length≠b.ss.length):C1 b t=false:=by
 cases hl:C1 b t with
 | false=>rfl
 | true=>
  obtain ⟨h1,h2,h3,_⟩:=Cg hl
  omega
theorem Mn {b:Cx} {t:Tru} (h1:t.g.length=b.vs.length) (h2:t.d.length=b.vs.length) (h3:t.m.length=b.ss.length)
  (h4:∀ j,j < b.vs.length→inB (t.g.getD j 0) (b.vs.getD j default).g.lo (b.vs.getD j default).g.hi=true∧inB (t.d.getD j 0) (b.vs.getD j default).d.lo (b.vs.getD j default).d.hi=true)
  (h5:∀ j,j < b.ss.length→inB (t.m.getD j 0) (b.ss.getD j default).g.lo (b.ss.getD j default).g.hi=true):C1 b t=true:=by
 simp only [C1,Bool.and_eq_true,decide_eq_true_eq,List.all_eq_true,List.mem_range]
 exact ⟨h1,h2,h3,fun k hk=>h4 k hk,h5⟩
def prA (s:Sta):Liq:=⟨s.g,s.e⟩
def wei (s:Sta):Sta:=⟨s.g,s.e,Ky s.e s.g⟩
def Ve (l:Liq):Sta:=⟨l.g,l.e,0⟩
def stL (v:List Liq):List (List PV):=v.map fun l=>H5 (L1 l)
theorem Aa4 (v:List Liq):stL v=(v.map L1).map H5:=by unfold stL; rw [List.map_map]; rfl
theorem Aij {S:List Sta} (h:∀ s ∈ S,0≤s.g):S.map wei=(S.map prA).map L1:=by
 rw [List.map_map]
 refine List.map_congr_left fun s hs=>?_
 have:=Asr (l:=prA s) (h s hs)
 show (⟨s.g,s.e,Ky s.e s.g⟩:Sta)=⟨s.g,s.e,Nf (prA s)⟩
 rw [← this]; rfl
theorem Bb2 (v:List Liq):(v.map L1).map prA=v:=by
 rw [List.map_map]; exact (List.map_congr_left fun l _=>rfl).trans (List.map_id v)
theorem Bam (v:List Liq):(v.map Ve).map prA=v:=by
 rw [List.map_map]; exact (List.map_congr_left fun l _=>rfl).trans (List.map_id v)
theorem Cz (S:List Sta):((S.map H5).all fun c=>decide (c.length=3))=true:=by simp
theorem Bl {S:List Sta} {k:Nat} {x y z:Int}:(S.map H5).set k [iv x,iv y,iv z]=(S.set k ⟨x,y,z⟩).map H5:=by rw [List.map_set]
theorem Wn {S:List Sta} {k j:Nat} {a:Sta}:(S.set k a).getD j default=if j=k∧k < S.length then a else S.getD j default:=by
 rw [List.getD_eq_getElem?_getD,List.getD_eq_getElem?_getD,List.getElem?_set]
 by_cases h:k=j
 ·subst h
  by_cases h2:k < S.length
  ·simp [h2]
  ·simp [h2]
 ·rw [if_neg h,if_neg (fun e=>h e.1.symm)]
theorem Aei {v:List Liq} {k:Nat} (h:k < v.length):(v.map L1).getD k default=L1 (A8 v k):=by
 unfold A8; rw [List.getD_eq_getElem?_getD,List.getD_eq_getElem?_getD,List.getElem?_map,List.getElem?_eq_getElem h]; rfl
theorem Adc {e g:Int} (he:0≤e) (hg:0 < g):(0≤e / g∧e / g≤e)∧(0≤e / g * g∧e / g * g≤e):=by
 have h1:0≤e / g:=Int.ediv_nonneg he (by omega)
 exact ⟨⟨h1,Int.ediv_le_self _ he⟩,Int.mul_nonneg h1 (by omega),Int.ediv_mul_le e (by omega)⟩
theorem OkN.mem {n:Nat} {v:List Liq} (h:OkN n v) {l:Liq} (hl:l ∈ v):(0≤l.g∧l.g≤60)∧0≤l.e∧l.e≤28800:=by
 obtain ⟨k,hk⟩:=List.mem_iff_getElem?.1 hl
 have:=h.at k
 unfold A8 at this
 rwa [List.getD_eq_getElem?_getD,hk] at this
theorem Bav (v:List Liq) (k:Nat):(v.map Ve).getD k default=Ve (A8 v k):=by
 unfold A8; rw [List.getD_eq_getElem?_getD,List.getD_eq_getElem?_getD,List.getElem?_map]
 cases v[k]? <;> rfl
theorem Akg {n:Nat} {v:List Liq} (h:OkN n v) (k:Nat):(0≤((v.map Ve).getD k default).e∧((v.map Ve).getD k default).e≤1000000000)∧0≤((v.map Ve).getD k default).g∧((v.map Ve).getD k default).g≤1000000:=by
 have:=h.at k
 rw [Bav]; simp only [Ve]; omega
theorem Aup {n:Nat} {v:List Liq} (h:OkN n v):((v.map Ve).map wei).map H5=stL v:=by
 rw [Aij,Bam,Aa4]
 intro s hs
 obtain ⟨l,hl,rfl⟩:=List.mem_map.1 hs
 exact (h.mem hl).1.1
abbrev Ag9 (gs ds:List Int) (k:Nat):Liq:=⟨gs.getD k 0,gs.getD k 0 * ds.getD k 0⟩
theorem Ar3 {acc R:List Liq} {is B:Bool} {vs:List Ves} {gs ds:List Int} (hk:acc.length < vs.length) (h1:acc++Ls (vs.drop acc.length) gs ds acc.length=R) (h2:(is&&Qj (vs.drop acc.length) gs acc.length)=B) :
  (acc++[Ag9 gs ds acc.length]).length≤vs.length ∧
  acc++[Ag9 gs ds acc.length]++Ls (vs.drop (acc++[Ag9 gs ds acc.length]).length) gs ds (acc++[Ag9 gs ds acc.length]).length=R ∧
  (is&&decide (gs.getD acc.length 0≤(vs.getD acc.length default).room)&&Qj (vs.drop (acc++[Ag9 gs ds acc.length]).length) gs (acc++[Ag9 gs ds acc.length]).length)=B:=by
 rw [Anh hk] at h1
 rw [Ako hk] at h2
 have hl:(acc++[Ag9 gs ds acc.length]).length=acc.length+1:=by simp
 rw [hl]
 refine ⟨by omega,?_,?_⟩
 ·rw [List.append_assoc]; exact h1
 ·rw [Bool.and_assoc]; exact h2
theorem Av8 {a b:Int} (h1:0≤a∧a≤100000) (h2:0≤b∧b≤100000):0≤a * b∧a * b≤10000000000:=by
 have e1:=Int.mul_nonneg h1.1 h2.1
 have e2:=Int.mul_le_mul h1.2 h2.2 h2.1 (by omega)
 omega
theorem Hw (l:Liq):(L1 l).g=l.g:=rfl
theorem Hs (l:Liq):(L1 l).e=l.e:=rfl
theorem Cc {S:List Sta} {k:Nat} {a:Sta} (h:k < S.length):(S.set k a).getD k default=a:=by rw [Wn,if_pos ⟨rfl,h⟩]
theorem Dq {S:List Sta} {k j:Nat} {a:Sta} (h:j≠k):(S.set k a).getD j default=S.getD j default:=by rw [Wn,if_neg fun e=>h e.1]
def SmA (S:List Sta):Prop:=∀ k,(0≤(S.getD k default).e∧(S.getD k default).e≤1000000000)∧0≤(S.getD k default).g∧(S.getD k default).g≤1000000
theorem A4 {S:List Sta} {k:Nat} {a:Sta} (h:SmA S) (ha:(0≤a.e∧a.e≤1000000000)∧0≤a.g∧a.g≤1000000):SmA (S.set k a):=fun j=>by
 rw [Wn]; split
 ·exact ha
 ·exact h j
theorem Ba5 (v:List Liq) (k:Nat):(v.map L1).getD k default=L1 (A8 v k):=by
 unfold A8; rw [List.getD_eq_getElem?_getD,List.getD_eq_getElem?_getD,List.getElem?_map]
 cases v[k]? <;> rfl
theorem Az9 {n:Nat} {v:List Liq} (h:OkN n v):SmA (v.map L1):=fun k=>by
 have:=h.at k
 rw [Ba5,Hw,Hs]; omega
theorem At9 {S:List Sta} {w:List Liq} (h:SmA S) (hw:S.map prA=w):(S.map wei).map H5=(w.map L1).map H5:=by
 rw [Aij (fun s hs=>?_),hw]
 obtain ⟨k,hk⟩:=List.mem_iff_getElem?.1 hs
 have:=(h k).2.1
 rwa [List.getD_eq_getElem?_getD,hk] at this
theorem B2 {v:List Liq} {k:Nat} (h:k < v.length) {a:Liq} (ha:a=A8 v k):v.set k a=v:=by
 subst ha
 refine List.ext_getElem? fun i=>?_
 rw [List.getElem?_set]
 split
 ·rename_i e; subst e; unfold A8; simp [List.getD,h]
 ·rfl
section
variable {vs:List Ves} {v:List Liq} {s:Stp} {n:Int}
theorem Ao (h:(doS vs v s n).2=false):doX vs v s n=(v,false):=by
 unfold doX; rw [if_neg (by rw [h]; decide)]
theorem Anx {w:List Liq} (h:doS vs v s n=(w,true)):doX vs v s n=(w,true):=by
 unfold doX; rw [h]; rfl
theorem Bft (hk:s.kind=0) (h:(A8 v s.frm.toNat).g < n):doX vs v s n=(v,false):=by
 refine Ao ?_
 unfold doS Fc Ex; rw [if_pos hk,if_pos h]; rfl
theorem Lz (hk:s.kind≠1) (hs:Dm vs.length s=true) (_:v.length=vs.length) (h:(A8 v s.frm.toNat).g < n):doX vs v s n=(v,false):=by
 by_cases h0:s.kind=0
 ·exact Bft h0 h
 ·obtain ⟨_,q2,q3,q4,_⟩:=Cd hs
  refine Ao ?_
  unfold doS Fc Qm; rw [if_neg h0,if_neg hk]
  dsimp only
  rw [decide_eq_false (show ¬ 0 < (A8 v s.frm.toNat).g - n by omega),decide_eq_false (show ¬ (A8 v s.frm.toNat).g - n=0 by omega)]; rfl
theorem doA {v w:List Liq} {S:List Sta} {b:Bool} (hS:S=v.map L1) (h:doX vs v s n=(w,b)) (hw:w=v) (hb:b=false):(AV.tup [.p (.sl (S.map H5)),.p (.val (.bool false))])=.tup [.p (.sl (((doX vs v s n).1.map L1).map H5)),bl (doX vs v s n).2]:=by
 rw [h,hS,hw,hb]
theorem doB {v w:List Liq} {S:List Sta} (h:doS vs v s n=(w,true)) (hs:SmA S) (hw:S.map prA=w):(AV.tup [.p (.sl ((S.map wei).map H5)),.p (.val (.bool true))])=.tup [.p (.sl (((doX vs v s n).1.map L1).map H5)),bl (doX vs v s n).2]:=by
 rw [Anx h,At9 hs hw]
theorem Ci (hk:s.kind=0) (hs:Dm vs.length s=true) (hl:v.length=vs.length) (h:¬ (A8 v s.frm.toNat).g < n) (hn:0 < n) :
  doS vs v s n=((v.set s.frm.toNat ⟨(A8 v s.frm.toNat).g - n,(A8 v s.frm.toNat).e - Fk v s.frm.toNat n⟩).set s.to.toNat ⟨(A8 v s.to.toNat).g+n,(A8 v s.to.toNat).e+Fk v s.frm.toNat n⟩,decide ((A8 v s.to.toNat).g+n≤(vs.getD s.to.toNat default).room)):=by
 obtain ⟨_,q2,q3,q4,_⟩:=Cd hs
 have hne:¬ (s.to.toNat=s.frm.toNat∧s.frm.toNat < v.length):=by omega
 unfold doS Fc Ex; rw [if_pos hk,if_neg h,if_pos hn]
 unfold Hy G8
 dsimp only
 rw [Ek (v:=v.set _ _),if_pos ⟨rfl,by rw [List.length_set]; omega⟩,Ek,if_neg hne]
 simp
theorem B3 (hk:s.kind=0) (h:¬ (A8 v s.frm.toNat).g < n) (hn:¬ 0 < n):doS vs v s n=(v,decide ((A8 v s.to.toNat).g≤(vs.getD s.to.toNat default).room)):=by
 unfold doS Fc Ex; rw [if_pos hk,if_neg h,if_neg hn]; simp
theorem B1 (hk:s.kind=1) (hs:Dm vs.length s=true) (hl:v.length=vs.length):doS vs v s n=(v.set s.to.toNat ⟨(A8 v s.to.toNat).g+n,(A8 v s.to.toNat).e⟩,decide ((A8 v s.to.toNat).g+n≤(vs.getD s.to.toNat default).room)):=by
 obtain ⟨_,q2,q3,q4,_⟩:=Cd hs
 unfold doS Fc Lb; rw [if_neg (by omega),if_pos hk]
 dsimp only
 rw [Ek,if_pos ⟨rfl,by omega⟩]
 simp
theorem Bn (hk:s.kind=2) (hs:Dm vs.length s=true) (hl:v.length=vs.length) (hr:Vl vs v) (hn:0≤n):doS vs v s n=(v.set s.frm.toNat ⟨(A8 v s.frm.toNat).g - n,(A8 v s.frm.toNat).e⟩,decide (0 < (A8 v s.frm.toNat).g - n)||(decide ((A8 v s.frm.toNat).g - n=0)&&decide ((A8 v s.frm.toNat).e=0))):=by
 obtain ⟨_,q2,q3,q4,_⟩:=Cd hs
 have e:s.to.toNat=s.frm.toNat:=by omega
 have hrr:=hr s.frm.toNat (by omega)
 unfold doS Fc Qm; rw [if_neg (by omega),if_neg (by omega)]
 dsimp only
 rw [e,Ek,if_pos ⟨rfl,by omega⟩]
 rw [decide_eq_true (show (A8 v s.frm.toNat).g - n≤(vs.getD s.frm.toNat default).room by omega),Bool.and_true]
end
theorem Y1:∀ {vs:List Ves} {gs ds:List Int} {i:Nat},Qj vs gs i=true→∀ k,k < vs.length→(A8 (Ls vs gs ds i) k).g≤(vs.getD k default).room
 | [],_,_,_,_,k,hk=>by cases hk
 | x :: vs,gs,ds,i,h,k,hk=>by
  unfold Qj at h
  rw [Bool.and_eq_true,decide_eq_true_eq] at h
  unfold Ls
  cases k with
  | zero=>exact h.1
  | succ k=>exact Y1 h.2 k (by simpa using hk)
theorem Ad8 {vs:List Ves} {gs ds:List Int} (h:Zg vs gs=true):Vl vs (Nq vs gs ds):=fun k hk=>Y1 h k hk
def Aoc (r:Rng):Prop:=inR r.lo=true∧inR r.hi=true
def Ay8 (v:Ves):Prop:=Aoc v.g∧Aoc v.d∧inR v.room=true
def Ayk (s:Stp):Prop:=inR s.kind=true∧inR s.frm=true∧inR s.to=true∧Aoc s.g
def Arq (b:Cx):Prop:=(∀ v ∈ b.vs,Ay8 v)∧∀ s ∈ b.ss,Ayk s
def Awq (t:Tru):Prop:=(∀ m ∈ t.g,inR m=true)∧(∀ m ∈ t.d,inR m=true)∧∀ m ∈ t.m,inR m=true
def mkN (l:List Int):Int:=l.getD 0 0
def mkV (l:List Int):Ves:=⟨⟨l.getD 0 0,l.getD 1 0⟩,⟨l.getD 2 0,l.getD 3 0⟩,l.getD 4 0⟩
def mkS (l:List Int):Stp:=⟨l.getD 0 0,l.getD 1 0,l.getD 2 0,⟨l.getD 3 0,l.getD 4 0⟩⟩
abbrev Ag7 (k:Nat) (R:List (List Int)):Prop:=∀ r ∈ R,r.length=k∧∀ m ∈ r,inR m=true
theorem Nz {α:Type} {k:Nat} {R:List (List Int)} (h:Ag7 k R) (mk:List Int→α) (enc:α→List PV) (he:∀ l:List Int,l.length=k→enc (mk l)=l.map iv):(R.map mk).map enc=R.map fun r=>r.map iv:=by
 rw [List.map_map]; exact List.map_congr_left fun r hr=>he r (h r hr).1
theorem R6 {α:Type} {k:Nat} {R:List (List Int)} (h:Ag7 k R) (mk:List Int→α) (I:α→Prop) (he:∀ l:List Int,l.length=k→(∀ m ∈ l,inR m=true)→I (mk l)):∀ x ∈ R.map mk,I x:=fun x hx=>by
 obtain ⟨r,hr,rfl⟩:=List.mem_map.1 hx
 exact he r (h r hr).1 (h r hr).2
theorem Ab6 (l:List Int) (h:l.length=1):Jj (mkN l)=l.map iv:=by match l,h with | [a],_=>rfl
theorem At5 (l:List Int) (h:l.length=5):Aex (mkV l)=l.map iv:=by match l,h with | [a,b,c,d,e],_=>rfl
theorem Auk (l:List Int) (h:l.length=5):Qc (mkS l)=l.map iv:=by match l,h with | [a,b,c,d,e],_=>rfl
theorem Aic (l:List Int) (h:l.length=1) (hm:∀ m ∈ l,inR m=true):inR (mkN l)=true:=by match l,h with | [a],_=>exact hm _ (by simp [mkN])
theorem Bbq (l:List Int) (h:l.length=5) (hm:∀ m ∈ l,inR m=true):Ay8 (mkV l):=by match l,h with | [a,b,c,d,e],_=>exact ⟨⟨hm _ (by simp [mkV]),hm _ (by simp [mkV])⟩,⟨hm _ (by simp [mkV]),hm _ (by simp [mkV])⟩,hm _ (by simp [mkV])⟩
theorem Bae (l:List Int) (h:l.length=5) (hm:∀ m ∈ l,inR m=true):Ayk (mkS l):=by match l,h with | [a,b,c,d,e],_=>exact ⟨hm _ (by simp [mkS]),hm _ (by simp [mkS]),hm _ (by simp [mkS]),hm _ (by simp [mkS]),hm _ (by simp [mkS])⟩
theorem Ast {vs ss:List (List Int)} (h1:Ag7 5 vs) (h2:Ag7 5 ss):Arq ⟨vs.map mkV,ss.map mkS⟩:=⟨R6 h1 mkV _ Bbq,R6 h2 mkS _ Bae⟩
theorem Arp {g d m:List (List Int)} (h1:Ag7 1 g) (h2:Ag7 1 d) (h3:Ag7 1 m):Awq ⟨g.map mkN,d.map mkN,m.map mkN⟩:=⟨R6 h1 mkN _ Aic,R6 h2 mkN _ Aic,R6 h3 mkN _ Aic⟩
end AM.Wort
end
/- The statements: what is read of the arguments is what the walks take; what a pure call leaves is what the statements ask. For any program. -/
section
namespace AM
set_option maxRecDepth 100000
open Go AM Go.ChangeShapes Go.WideShapes Go.ChangeAt Go.RowKit
structure BrP (P:Program):Prop where
 kids:Kids P (· < P.types.size)
 full:∀ t e,t < P.types.size→P.underlying t=some (.slice e)→0 < P.cellsOf e
 bool:P.underlying 4=some .bool
section
variable {P:Program} {H:Type} {enc:TypeId × Value→H} {W W':World}
theorem Asw (hk:Bi (fun b=>W.heap.size≤b) W W') {p:MemPlace} (hp:p.block < W.heap.size):W.sameAt W' p:=by
 have h:=hk.same p.block hp (by omega)
 cases p with
 | cell b off=>simp only [World.sameAt,World.cell?]; rw [show W'.heap[b]?=W.heap[b]? from h]
 | map b=>exact h
theorem T4 (hP:BrP P) (hk:Bi (fun b=>W.heap.size≤b) W W') (sp:Nat→Bool):∀ {ts:List TypeId} {vs:List Value} {ds:List (DataW H)} {p:List MemPlace},
  (∀ t ∈ ts,t < P.types.size)→DataW.TrodAll enc P W 0 (fun _=>true) true ts vs ds p→(∀ x ∈ p,x.block < W.heap.size)→(∀ x ∈ p,sp x.block=true)→DataW.TrodAll enc P W' 0 sp true ts vs ds p
 | [],[],[],_,_,h,_,_=>h
 | _ :: _,_ :: _,_ :: _,_,hT,⟨p,q,⟨n,h1⟩,h2,e⟩,hl,hs=>
  ⟨p,q,⟨n,DataW.trod_stays hP.kids (fun ht hu=>hP.full _ _ ht hu) (fun h=>by cases h) (hT _ (List.mem_cons.2 (Or.inl rfl))) h1 (fun x hx=>Asw hk (hl x (by rw [e]; exact List.mem_append_left _ hx))) (fun x hx=>hs x (by rw [e]; exact List.mem_append_left _ hx))⟩,
   T4 hP hk sp (fun t ht=>hT t (List.mem_cons.2 (Or.inr ht))) h2 (fun x hx=>hl x (by rw [e]; exact List.mem_append_right _ hx)) (fun x hx=>hs x (by rw [e]; exact List.mem_append_right _ hx)),e⟩
theorem X2 (hk:Bi (fun b=>W.heap.size≤b) W W') (may:MemPlace→Prop):W.keptBut W' may:=by
 refine ⟨hk.os,hk.output,fun i hi=>?_⟩
 have h:=hk.same i hi (by omega)
 rw [h]
 cases W.heap[i]? with
 | none=>rfl
 | some o=>cases o <;> first | exact ⟨rfl,rfl,rfl,fun _ _=>rfl⟩ | exact .inr ⟨rfl,rfl⟩ | rfl
theorem Arn (hP:BrP P) {fn:Func} {s:ChangeSpec} {args:Array Value} {ds gs:List (DataW H)} {before:List MemPlace} (hr:fn.resultTypes=#[4]) (hp:∀ t ∈ fn.params.toList,t < P.types.size) (hv:s.vars=[])
  (hfn:s.fn H (ds++gs)={ results:=[.lit (.bool true)],args:=ds }) (hW:DataW.Whole enc P fn.params.toList s.vars false W args.toList ds gs before) (hk:Bi (fun b=>W.heap.size≤b) W W') :
  s.post enc P fn false true false false W args (.bool true) W':=by
 have hW0:=hW
 obtain ⟨p,q,hA,hV,rfl,hz,hn⟩:=hW
 rw [hv] at hV
 obtain ⟨rfl,rfl⟩:=trodVars_none hV
 have hlt:∀ x ∈ p,x.block < W.heap.size:=hA.lt
 refine ⟨ds,[],p++[],[],p,[],hW0,?_,?_,?_,World.keptBut_mono (fun x hx=>⟨hx,.inr (.inl (by simpa using hx))⟩) (X2 hk _),fun h=>by cases h⟩
 ·rw [hfn,hr]; exact trodAll_mk1 (shut_bool hP.bool true)
 ·rw [hfn]; exact T4 hP hk _ hp hA hlt (fun x hx=>by simpa using hlt x hx)
 ·rw [hfn,hv]; rfl
theorem law_calls (hP:BrP P) {f:FuncId} {avs:List AV} {fn:Func} {s:ChangeSpec} {args:Array Value} {ds gs:List (DataW H)} {before:List MemPlace} (hc:Bj P f avs (bl true)) (hsz:args.size=avs.length) (hrel:∀ θ (i:Nat) (x:AV),avs[i]?=some x→Aq θ (fun _=>False) W x (args.getD i undef))
  (hr:fn.resultTypes=#[4]) (hp:∀ t ∈ fn.params.toList,t < P.types.size) (hv:s.vars=[]) (hfn:s.fn H (ds++gs)={ results:=[.lit (.bool true)],args:=ds }) (hW:DataW.Whole enc P fn.params.toList s.vars false W args.toList ds gs before) :
  Calls P f args W fun e W'=>∃ v,e=.returned v∧s.post enc P fn false true false false W args v W':=by
 refine (hc.2 (fun _=>⟨0,0,true⟩) (fun _=>False) W args (fun b h=>h.elim) hsz (fun i x hx=>hrel _ i x hx)).mono ?_
 rintro e W' ⟨v,rfl,hv',hk⟩
 cases hv' with
 | p _ _ h=>
  cases h with
  | val _ _=>exact ⟨_,rfl,Arn hP hr hp hv hfn hW hk⟩
theorem Amn {rows:List (List Int)} {b o len cap k:Nat} (hlen:rows.length=len) (hc:len≤cap) (hk:∀ r ∈ rows,r.length=k)
  (hcell:∀ (i:Nat) (r:List Int) (j:Nat) (m:Int),rows[i]?=some r→r[j]?=some m→W.cell? ⟨b,o+(i * k+j),none⟩=some (.int .i64 m)):C5 (fun _=>False) W (.sl (rows.map fun r=>r.map iv)) (.slice (some ⟨b,o,none⟩) len cap):=by
 have h:=C5.sl (M:=fun _=>False) (w:=W) (rows.map fun r=>r.map iv) b o cap k (fun i j=>(W.cell? ⟨b,o+(i * k+j),none⟩).getD undef) (fun i e he=>?_) (by rw [List.length_map,hlen]; exact hc) (fun i e j x he hx=>?_) (fun i e j x he hx=>?_)
 ·rw [List.length_map,hlen] at h; exact h
 ·simp only [List.getElem?_map,Option.map_eq_some_iff] at he
  obtain ⟨r,hr,rfl⟩:=he
  rw [List.length_map]; exact hk r (List.mem_of_getElem? hr)
 all_goals
  simp only [List.getElem?_map,Option.map_eq_some_iff] at he
  obtain ⟨r,hr,rfl⟩:=he
  simp only [List.getElem?_map,Option.map_eq_some_iff] at hx
  obtain ⟨m,hm,rfl⟩:=hx
  have hc:=hcell i r j m hr hm
  rw [hc]
 ·exact ⟨fun h=>h,rfl⟩
 ·exact .val _ rfl
theorem inR_wfB {m:Int} (h:(Lit.int .i64 m).wf=true):inR m=true:=by
 simp only [Lit.wf,IntKind.min,IntKind.max,IntKind.signed,IntKind.bits,Bool.and_eq_true,decide_eq_true_eq] at h
 simp only [inR,Bool.and_eq_true,decide_eq_true_eq]
 constructor <;> simp_all
theorem Adl {b o i:Nat}:Addr.add ⟨b,o,none⟩ i=⟨b,o+i,none⟩:=by
 unfold Addr.add
 split
 ·rename_i h; simp_all
 ·rfl
theorem open_recs {t e k fuel:Nat} {cs:List Value} {x:DataW H × List MemPlace} (ht:P.underlying t=some (.slice e)) (hk:P.cellsOf e=k)
  (hel:∀ n cs x,DataW.trod enc P W 0 (fun _=>true) true n e cs=some x→∃ ms:List Int,cs=ms.map (fun m=>Value.int .i64 m)∧ms.length=k∧∀ m ∈ ms,inR m=true)
  (h:DataW.trod enc P W 0 (fun _=>true) true fuel t cs=some x) (hsp:∀ a len cap,cs=[.slice (some a) len cap]→a.spot=none) :
  ∃ rows:List (List Int),(∀ r ∈ rows,r.length=k∧∀ m ∈ r,inR m=true)∧∃ v,cs=[v]∧C5 (fun _=>False) W (.sl (rows.map fun r=>r.map iv)) v:=by
 rcases Go.Deep.open_slice ht h with ⟨rfl,_⟩ | ⟨a,len,cap,m,n,D,Pl,rfl,_,hl,hm,hmm,_,hi⟩
 ·exact ⟨[],by simp,_,rfl,.nil⟩
 ·have hs:=hsp a len cap rfl
  obtain ⟨b,o,sp⟩:=a
  dsimp only at hs; subst hs
  simp only [if_true] at hmm
  subst hmm
  obtain ⟨F,hF⟩:=Go.Deep.choose_lt (α:=List Int) (n:=m) (p:=fun i ms=>W.cells? 0 (Addr.add ⟨b,o,none⟩ (i * k)) k=some (ms.map fun m=>Value.int .i64 m)∧ms.length=k∧∀ m ∈ ms,inR m=true) (fun i h1=>by
   obtain ⟨cs',h2,h3⟩:=hi i h1
   obtain ⟨ms,rfl,h4,h5⟩:=hel _ _ _ h3
   rw [hk] at h2
   exact ⟨ms,h2,h4,h5⟩)
  refine ⟨(List.range len).map F,fun r hr=>?_,_,rfl,Amn (k:=k) (by simp) hl (fun r hr=>?_) (fun i r j m hr hm=>?_)⟩
  ·obtain ⟨i,h1,rfl⟩:=List.mem_map.1 hr
   exact (hF i (by have:=List.mem_range.1 h1; omega)).2
  ·obtain ⟨i,h1,rfl⟩:=List.mem_map.1 hr
   exact (hF i (by have:=List.mem_range.1 h1; omega)).2.1
  ·simp only [List.getElem?_map,Option.map_eq_some_iff] at hr
   obtain ⟨i',h1,rfl⟩:=hr
   have hlt:i < len:=by
    have:=(List.getElem?_eq_some_iff.1 h1).1; simpa using this
   have e:i'=i:=by
    rw [List.getElem?_range hlt] at h1; exact (Option.some.inj h1).symm
   subst e
   obtain ⟨h2,h3,_⟩:=hF i' (by omega)
   obtain ⟨_,_,h4⟩:=World.cells?_some h2
   have hj:j < k:=by rw [← h3]; exact (List.getElem?_eq_some_iff.1 hm).1
   have h5:=h4 j hj
   rw [List.getElem?_map,hm] at h5
   rw [Adl,Adl,Nat.add_assoc] at h5
   exact h5
theorem Bfx {t j n:Nat} {cs:List Value} {x:DataW H × List MemPlace} (h:DataW.trod enc P W 0 (fun _=>true) true n t ((cs.drop j).take 1)=some x) (hj:j < cs.length):∃ v,cs[j]?=some v∧DataW.trod enc P W 0 (fun _=>true) true n t [v]=some x:=by
 refine ⟨cs[j],List.getElem?_eq_getElem hj,?_⟩
 rw [List.drop_eq_getElem_cons hj] at h
 exact h
def Ud (P:Program) (t:TypeId) (k:Nat):Prop:=∀ {H:Type} {enc:TypeId × Value→H} {W:World} (n:Nat) (cs:List Value) (x:DataW H × List MemPlace),DataW.trod enc P W 0 (fun _=>true) true n t cs=some x→∃ ms:List Int,cs=ms.map (fun m=>Value.int .i64 m)∧ms.length=k∧∀ m ∈ ms,inR m=true
theorem Ars {t:TypeId} (h:P.underlying t=some (.int .i64)):Ud P t 1:=fun n cs x hx=>by
 obtain ⟨m,rfl,_,hw⟩:=DataW.trod_int h hx
 exact ⟨[m],rfl,rfl,fun y hy=>by rw [List.mem_singleton.1 hy]; exact inR_wfB hw⟩
def Bg2 (l:List (Nat × Nat)) (K:Nat):Bool:=(List.range K).all fun j=>l.any fun p=>decide (p.1≤j)&&decide (j < p.1+p.2)
theorem N5 {e K:Nat} {fs:Array Field} (he:P.underlying e=some (.struct fs)) (hc:P.cellsOf e=K) (hf:∀ f ∈ fs.toList,∃ k,Ud P f.type k) (hcov:Bg2 (fs.toList.map fun f=>(f.offset,P.cellsOf f.type)) K=true):Ud P e K:=fun n cs x hx=>by
 obtain ⟨xs,n',_,_,hl,hxs,hg⟩:=DataW.trod_struct he hx
 rw [hc] at hl
 have key:∀ j,j < K→∃ m,cs[j]?=some (Value.int .i64 m)∧inR m=true:=fun j hj=>by
  have h1:=List.all_eq_true.1 hcov j (List.mem_range.2 hj)
  obtain ⟨p,hp,h2⟩:=List.any_eq_true.1 h1
  obtain ⟨f,hm,rfl⟩:=List.mem_map.1 hp
  simp only [Bool.and_eq_true,decide_eq_true_eq] at h2
  obtain ⟨i,hi⟩:=List.mem_iff_getElem?.1 hm
  obtain ⟨k,hk⟩:=hf f hm
  have hi':fs[i]?=some f:=by simpa using hi
  have h3:=hg i f hi'
  have hix:i < xs.length:=by
   rw [hxs]; exact (Array.getElem?_eq_some_iff.1 hi').1
  rw [List.getElem?_eq_getElem hix] at h3
  obtain ⟨ms,h4,h5,h6⟩:=hk _ _ _ h3
  have h7:((cs.drop f.offset).take (P.cellsOf f.type))[j - f.offset]?=cs[j]?:=by
   rw [List.getElem?_take,if_pos (by omega),List.getElem?_drop]; congr 1; omega
  have hjl:j < cs.length:=by omega
  rw [h4,List.getElem?_map,List.getElem?_eq_getElem hjl] at h7
  cases hq:ms[j - f.offset]? with
  | none=>rw [hq] at h7; cases h7
  | some m=>
   rw [hq] at h7
   refine ⟨m,?_,h6 m (List.mem_of_getElem? hq)⟩
   rw [List.getElem?_eq_getElem hjl]; exact h7.symm
 obtain ⟨F,hF⟩:=Go.Deep.choose_lt (n:=K) (p:=fun j m=>cs[j]?=some (Value.int .i64 m)∧inR m=true) key
 refine ⟨(List.range K).map F,?_,by simp,fun m hm=>?_⟩
 ·refine List.ext_getElem? fun j=>?_
  by_cases hj:j < K
  ·rw [(hF j hj).1]; simp [hj]
  ·rw [List.getElem?_eq_none (by omega),List.getElem?_eq_none (by simp; omega)]
 ·obtain ⟨j,hj,rfl⟩:=List.mem_map.1 hm
  exact (hF j (List.mem_range.1 hj)).2
theorem open_lists {base t:Nat} {v:Value} {d:DataW H} {p:List MemPlace} {fs:Array Field} {ks:List (TypeId × Nat)} (ht:P.underlying t=some (.struct fs)) (hc:P.cellsOf t=ks.length) (hn:fs.toList.length=ks.length) (hty:P.cellTypes P.depth t=some (fs.toList.map (·.type)))
  (hf:∀ (i:Nat) (f:Field) (e k:Nat),fs.toList[i]?=some f→ks[i]?=some (e,k)→f.offset=i∧P.cellsOf f.type=1∧P.underlying f.type=some (.slice e)∧P.cellsOf e=k∧Ud P e k)
  (hv:Value.okWide P W .any base t v) (h:DataW.Trod enc P W 0 (fun _=>true) true t v d p) :
  ∃ R:List (List (List Int)),R.length=ks.length∧(∀ (i:Nat) (rows:List (List Int)) (e k:Nat),R[i]?=some rows→ks[i]?=some (e,k)→∀ r ∈ rows,r.length=k∧∀ m ∈ r,inR m=true)∧∀ θ,Aq θ (fun _=>False) W (.agg (R.map fun rows=>.p (.sl (rows.map fun r=>r.map iv)))) v:=by
 simp only [Value.okWide,ht] at hv
 obtain ⟨cs,rfl,_,ts,hts,_,hall⟩:=hv
 rw [hty] at hts
 cases hts
 obtain ⟨n,hn'⟩:=h
 obtain ⟨l⟩:=cs
 obtain ⟨xs,n',_,_,hl,hxs,hg⟩:=DataW.trod_struct ht hn'
 have hl:l.length=ks.length:=hl.trans hc
 have key:∀ i,i < ks.length→∃ rows:List (List Int),(∀ e k,ks[i]?=some (e,k)→∀ r ∈ rows,r.length=k∧∀ m ∈ r,inR m=true)∧∃ v,l[i]?=some v∧C5 (fun _=>False) W (.sl (rows.map fun r=>r.map iv)) v:=fun i hi=>by
  obtain ⟨f,hf1⟩:∃ f,fs.toList[i]?=some f:=⟨_,List.getElem?_eq_getElem (by omega)⟩
  obtain ⟨⟨e,k⟩,hk1⟩:∃ q,ks[i]?=some q:=⟨_,List.getElem?_eq_getElem hi⟩
  obtain ⟨o1,o2,o3,o4,o5⟩:=hf i f e k hf1 hk1
  have g:=hg i f (by simpa using hf1)
  have hix:i < xs.length:=by
   rw [hxs]; have:fs.size=fs.toList.length:=by simp
   omega
  rw [o1,o2,List.getElem?_eq_getElem hix] at g
  obtain ⟨v,hv,g2⟩:=Bfx g (by show i < l.length; omega)
  have hv:l[i]?=some v:=hv
  obtain ⟨rows,r1,v',r2,r3⟩:=open_recs o3 o4 (fun _ _ _=>o5 _ _ _) g2 (fun b len cap e=>by
   obtain ⟨u,hu,hok⟩:=hall i v (by simpa using hv)
   rw [List.head_eq_of_cons_eq e] at hok
   have hil:i < fs.toList.length:=by omega
   have hu:u=f.type:=by
    have hm:i % (fs.toList.map (·.type)).length=i:=Nat.mod_eq_of_lt (by rw [List.length_map]; exact hil)
    rw [hm,List.getElem?_map,hf1] at hu; exact (Option.some.inj hu).symm
   subst hu
   simp only [o3,Cell.okWide,Cell.ok,World.has] at hok
   exact hok.2.2.2.1)
  have r2:=List.head_eq_of_cons_eq r2
  subst r2
  exact ⟨rows,fun e' k' he=>by rw [hk1] at he; cases he; exact r1,v,hv,r3⟩
 obtain ⟨F,hF⟩:=Go.Deep.choose_lt key
 refine ⟨(List.range ks.length).map F,by simp,fun i rows e k hr hk=>?_,fun θ=>.agg _ _ (by simp [hl]) (fun i hi=>?_) (fun i x hx=>?_)⟩
 ·simp only [List.getElem?_map,Option.map_eq_some_iff] at hr
  obtain ⟨i',h1,rfl⟩:=hr
  have hlt:i < ks.length:=(List.getElem?_eq_some_iff.1 hk).1
  have e:i'=i:=by rw [List.getElem?_range hlt] at h1; exact (Option.some.inj h1).symm
  subst e
  exact (hF i' hlt).1 _ _ hk
 ·have hi:i < ks.length:=by simpa using hi
  obtain ⟨_,v,hv,hp⟩:=hF i hi
  have hil:i < l.length:=by omega
  have e:=(List.getElem?_eq_some_iff.1 hv).2
  have:l.toArray.getD i undef=v:=by simp [hil,e]
  rw [this]; exact hp.oneCell
 ·simp only [List.getElem?_map,Option.map_eq_some_iff] at hx
  obtain ⟨rows,⟨i',h1,rfl⟩,rfl⟩:=hx
  have hlt:i < ks.length:=by
   have:=(List.getElem?_eq_some_iff.1 h1).1; simpa using this
  have e:i'=i:=by rw [List.getElem?_range hlt] at h1; exact (Option.some.inj h1).symm
  subst e
  obtain ⟨_,v,hv,hp⟩:=hF i' hlt
  have hil:i' < l.length:=by omega
  have e:=(List.getElem?_eq_some_iff.1 hv).2
  have:l.toArray.getD i' undef=v:=by simp [hil,e]
  rw [this]; exact .p _ _ hp
end
end AM
end
