/- Lemmas for the proof: an abstract machine over the program's form in Lean, and the program's functions walked on it. -/
import Derived.Test.YtbgiddcgdgdmbaaGreatQ3
import Derived.LoopNIn
import Derived.Laws.IdiomRangeMap
import Derived.Maps.Keyed
import Derived.ProofKit
import Derived.Deep.Slices
import Derived.ChangeStays
/- The abstract machine, part 36: a slice literal that is never written again. -/
section
namespace AM
open Go
section
variable {P:Program} {nb N B:Nat} {S:Nat→Prop} {θ:Nat→Loc} {M:Nat→Prop} {w:World} {st st':St} {a:Act} {o:Oper} {d:Nat} {e:Eff}
theorem Acn (h:Ar N B S θ M w st a) {dk:Nat} (hdst:o.dst=some dk) (hdN:dk < N) {k:Nat} {es:List (List PV)} {vs:List Value} {t:TypeId} {cap:Nat}
  (hk:∀ (i:Nat) (e:List PV),es[i]?=some e→e.length=k) (hc:es.length≤cap) (_:vs.length=cap * k) (_:∀ (i:Nat) (v:Value),vs[i]?=some v→v.oneCell'=true) (hfl:FL M w k es vs) :
  Adv nb N B S θ M w (st.put o.dst (.p (.sl es))) (a.put o.dst (.slice (some ⟨w.heap.size,0,none⟩) es.length cap)) (w.alloc (.cells vs.toArray t)):=by
 have hS:=h.ext (A8.alloc (fun b=>w.heap.size≤b) w (.cells vs.toArray t))
 have hk':∀ b,b < w.heap.size→(w.alloc (.cells vs.toArray t)).heap[b]?=w.heap[b]?:=fun b hb=>Gk w _ hb
 refine ⟨θ,M,hS.put (d:=o.dst) (fun k e=>by rw [hdst] at e; cases e; exact hdN) (x:=.p (.sl es)) (v:=.slice (some ⟨w.heap.size,0,none⟩) es.length cap) (.p _ _ ?_) (AV.lives_p _ _),A8.alloc _ _ _,fun _ _=>rfl,fun _ _ h=>h⟩
 refine Ck.sl es w.heap.size 0 cap k (fun i j=>vs.getD (i * k+j) undef) hk hc (fun i e j x hi hj=>?_) (fun i e j x hi hj=>?_)
 ·obtain ⟨v,h2,_⟩:=hfl i e j x hi hj
  refine ⟨fun hm=>Nat.lt_irrefl _ (h.mlt _ hm),?_⟩
  refine Cu (Ga w _) ?_
  rw [Nat.zero_add,List.getElem?_toArray,h2,List.getD_eq_getElem?_getD,h2]; rfl
 ·obtain ⟨v,h2,h3⟩:=hfl i e j x hi hj
  rw [List.getD_eq_getElem?_getD,h2]
  exact h3.mono (fun b hb _=>hk' b hb) (fun _ _ hm=>hm)
theorem Aab (h:Ar N B S θ M w st a) {t e:TypeId} {len:Nat} {parts:Array (Nat × Operand)} (ho:o.op=.buildSlice t len parts) {dk:Nat} (hdst:o.dst=some dk) (hdN:dk < N)
  (hk:(Aa P t).k=.sl e) (hg:∀ k,(Aa P e).k=k→k≠.bad) {es:List (List PV)} (hp:Bf (Aa P e).sz 0 (parts.toList.map fun p=>(p.1,ev st.t p.2))=some es) (hlen:es.length=len)
  (h24:len * (Aa P e).sz≤16777216) (hz:len=0∨((Aa P e).sz=(Aa P e).zero.length∧0 < (Aa P e).sz)) :
  Dn P nb N B S θ M w (st.put o.dst (.p (.sl es))) o a:=by
 subst hlen
 have hu:=D3 hk
 have hzero:∃ z:Array Value,(es.length * (Aa P e).sz=0→z=#[])∧(es.length * (Aa P e).sz≠0→∃ z',(zeroValue e).run P w=.ok z' w∧z=z'.cells):=by
  by_cases h0:es.length * (Aa P e).sz=0
  ·exact ⟨#[],fun _=>rfl,fun h=>absurd h0 h⟩
  ·rcases hz with h1 | ⟨h1,h2⟩
   ·exact absurd (by rw [h1]; simp) h0
   ·obtain ⟨z,hz1,_⟩:=Ff (P:=P) (w:=w) hg h1 h2
    exact ⟨z.cells,fun h=>absurd h h0,fun _=>⟨z,hz1,rfl⟩⟩
 obtain ⟨z,hza,hzb⟩:=hzero
 have hpl:(parts.toList.map fun p=>(p.1,ev st.t p.2)).length=es.length:=by
  have:∀ (k i:Nat) (l:List (Nat × AV)) (es:List (List PV)),Bf k i l=some es→l.length=es.length:=by
   intro k i l
   induction l generalizing i with
   | nil=>intro es h; simp only [Bf,Option.some.injEq] at h; subst h; rfl
   | cons x r ih=>
    intro es h
    obtain ⟨j,x⟩:=x
    simp only [Bf] at h
    cases hb:x.cs?.bind Lr with
    | none=>simp [hb] at h
    | some c=>
     cases hq:Bf k (i+1) r with
     | none=>simp [hb,hq] at h
     | some es'=>
      simp only [hb,hq] at h
      split at h
      ·have h:=Option.some.inj h; subst h; simp [ih _ _ hq]
      ·cases h
  exact this _ _ _ _ hp
 obtain ⟨out,vs,h1,h2,h3,h4,h5,h6,h7,h8⟩:=R1 (θ:=θ) (M:=M) (w:=w) (Aa P e).sz (parts.toList.map fun p=>(p.1,ev st.t p.2)) (parts.toList.map fun p=>(p.1,a.eval p.2)) 0 es
  ((Array.range (es.length * (Aa P e).sz)).map (z[· % z.size]!)) [] (by simp [List.map_map,Function.comp_def]) (fun i p q hi hq=>by
   simp only [List.getElem?_map,Option.map_eq_some_iff] at hi hq
   obtain ⟨y,hy,rfl⟩:=hi
   obtain ⟨y',hy',rfl⟩:=hq
   rw [hy] at hy'; cases hy'
   exact Ao h y.2) hp (by simp) (by simp) (by rw [hpl]; simp)
 have hov:out.toList=vs:=by
  rw [Nat.zero_add,List.nil_append,hpl] at h3
  rw [← h3,List.take_of_length_le]
  simp [h2]
 have hrun:(Instr.buildSlice t es.length (parts.map fun (i,x)=>(i,a.eval x))).run P w=.ok (.slice (some ⟨w.heap.size,0,none⟩) es.length es.length) (w.alloc (.cells out e)):=by
  have h24':¬ (16777216 < es.length * (Aa P e).sz):=by omega
  have h1':Instr.fill (fun i=>some (i * (Aa P e).sz,(Aa P e).sz)) ((Array.range (es.length * (Aa P e).sz)).map (z[· % z.size]!)) (parts.map fun (i,x)=>(i,a.eval x)).toList=some out:=by
   rw [Array.toList_map]; exact h1
  by_cases h0:es.length * (Aa P e).sz=0
  ·have hz0:=hza h0
   subst hz0
   simp only [Instr.buildSlice,Sem.run_bind,A5 hu,Result.andThen_ok,Bs (w:=w) hg]
   rw [if_neg h24',if_pos h0]
   simp only [Sem.run_bind,Sem.run_pure,Result.andThen_ok,h1',newRow,run_newObj]
   rfl
  ·obtain ⟨z',hz1,rfl⟩:=hzb h0
   simp only [Instr.buildSlice,Sem.run_bind,A5 hu,Result.andThen_ok,Bs (w:=w) hg]
   rw [if_neg h24',if_neg h0]
   simp only [Sem.run_bind,hz1,Sem.run_pure,Result.andThen_ok,h1',newRow,run_newObj]
   rfl
 have hadv:=Acn (nb:=nb) (t:=e) (vs:=out.toList) h hdst hdN h6 (Nat.le_refl _) (by rw [hov]; exact h5) (by rw [hov]; exact h7) (by rw [hov]; exact h8)
 refine ⟨.slice (some ⟨w.heap.size,0,none⟩) es.length es.length,w.alloc (.cells out e),.inl ?_,by simpa using hadv⟩
 simp only [execOp,ho]
 exact J7 hrun
end
section
variable {P:Program} {r:RB} {N:Nat} {s:St} {K:St→Prop} {dst:Option Nat} {ty:TypeId} {pos:String} {after:Array Edge} {g:Option (Nat × Bool)} {all rest:List Oper}
def EPp (N:Nat) (dst:Option Nat) (s:St) (K:St→Prop):Option Eff→Prop
 | some (.new (.arr _ es) _)=>dst.isSome=true∧Bx N dst=true∧K (s.put dst (.p (.sl es)))
 | _=>False
theorem Fh {k:Nat} {es:List (List PV)} {x:AV}:EPp N dst s K (some (.new (.arr k es) x))=(dst.isSome=true∧Bx N dst=true∧K (s.put dst (.p (.sl es)))):=rfl
def EPb (P:Program) (N:Nat) (o:Oper) (s:St) (K:St→Prop):Prop:=match o.op with
 | .buildSlice t n parts=>EPp N o.dst s K (fBS P 0 n (parts.toList.map fun p=>(p.1,ev s.t p.2)) (Aa P t).k)
 | _=>False
theorem H6 {t:TypeId} {n:Nat} {parts:Array (Nat × Operand)}:EPb P N ⟨dst,.buildSlice t n parts,ty,pos,after,g⟩ s K=EPp N dst s K (fBS P 0 n (parts.toList.map fun p=>(p.1,ev s.t p.2)) (Aa P t).k):=rfl
theorem Yi {o:Oper} (h:EPb P N o s K):B2 P r N o s K:=by
 unfold EPb at h
 split at h
 ·rename_i t n parts ho
  intro B S θ M w a Q hs
  cases hk:(Aa P t).k with
  | sl e=>
   rw [hk,Alr] at h
   cases hp:Bf (Aa P e).sz 0 (parts.toList.map fun p=>(p.1,ev s.t p.2)) with
   | none=>rw [hp] at h; exact h.elim
   | some es=>
    rw [hp,Ac7] at h
    split at h
    ·rename_i hc
     rw [Fh] at h
     obtain ⟨h1,h2,h3⟩:=h
     obtain ⟨dk,hd⟩:=Option.isSome_iff_exists.1 h1
     obtain ⟨v,w',hr,hadv⟩:=Aab (nb:=r.b) hs ho hd (Ct h2 dk hd) hk (Ch hc.2.1) hp hc.1 hc.2.2.1 hc.2.2.2
     refine ⟨fun _ _=>trivial,?_⟩
     rw [Oper.semAt_eq _ _ _ (by rw [ho]; intro c h; cases h)]
     rcases hr with hr | ⟨hr,rfl⟩
     ·rw [hr]; exact ⟨_,h3,hadv.toM,by cases o.dst <;> rfl⟩
     ·rw [hr]; exact ⟨_,h3,hadv.toM,by cases o.dst <;> rfl⟩
    ·exact h.elim
  | _=>rw [hk] at h; exact h.elim
 ·exact h.elim
def ELp (P:Program) (r:RB) (N:Nat) (all:List Oper):Nat→List Oper→St→(St→Prop)→Prop
 | 0,o :: rest,s,K=>o.guard=none∧EPb P N o s fun s'=>EL P r N all rest s' K
 | k+1,o :: rest,s,K=>o.guard=none∧EO P r N o s fun s'=>ELp P r N all k rest s' K
 | _,[],_,_=>False
theorem X5:∀ {l:List Oper} {k:Nat} {s:St} {K:St→Prop},ELp P r N all k l s K→AL P r N all l s K
 | ⟨dst,op,ty,pos,after,g⟩ :: rest,0,s,K,h=>by
  obtain ⟨h1,h2⟩:=h
  have h1:g=none:=h1
  subst h1
  exact AL.step ((Yi h2).mono fun s' h'=>Dd h')
 | ⟨dst,op,ty,pos,after,g⟩ :: rest,k+1,s,K,h=>by
  obtain ⟨h1,h2⟩:=h
  have h1:g=none:=h1
  subst h1
  exact AL.step ((Fg h2).mono fun s' h'=>X5 h')
 | [],0,_,_,h=>h.elim
 | [],_+1,_,_,h=>h.elim
theorem Mm (k:Nat) {Q:AEx→St→Prop} {id:Nat} {ops:List Oper} (h:ELp P r N ops k ops s (Q .normal)):AWP P r N (.region id ops.toArray false) s Q:=C2 (X5 h)
def EKp (P:Program) (r:RB) (N:Nat) (all:List Oper) (k:Nat) (rest:List Oper) (K:St→Prop) (s:St):Prop:=ELp P r N all k rest s K
theorem Ly {t:Nat→AV} {o:Nat→Option AO} {k:Nat}:EKp P r N all k rest K ⟨t,o⟩=ELp P r N all k rest ⟨t,o⟩ K:=rfl
theorem Su {o:Op}:ELp P r N all 0 (⟨dst,o,ty,pos,after,none⟩ :: rest) s K=EPb P N ⟨dst,o,ty,pos,after,none⟩ s (EK P r N all rest K):=propext ⟨fun h=>h.2,fun h=>⟨rfl,h⟩⟩
theorem Pa {o:Op} {k:Nat}:ELp P r N all (k+1) (⟨dst,o,ty,pos,after,none⟩ :: rest) s K=EO P r N ⟨dst,o,ty,pos,after,none⟩ s (EKp P r N all k rest K):=propext ⟨fun h=>h.2,fun h=>⟨rfl,h⟩⟩
end
def Yn (es:Array MapEntry) (clock:Nat):Obj→Prop:=fun o=>o=.map es clock
def Sp (since:Nat) (seen:Array Nat) (last:Nat):Nat→Obj→Prop:=fun b o=>o=.mapIter (some b) since seen last
def Fd (es:Array MapEntry) (seen:Array Nat):Array MapEntry:=es.filter fun e=>!seen.contains e.born
theorem Acb {P:Program} (w:World) (ty:TypeId) (r bm since c0:Nat) (seen:Array Nat) (es:Array MapEntry) (clock:Nat) (hr:w.heap[r]?=some (.mapIter (some bm) since seen c0)) (hb:w.heap[bm]?=some (.map es clock)) (hold:∀ x ∈ es.toList,x.born < since) (hsc:since≤c0) :
  ((Fd es seen).size=0∧(Instr.next (.pointer (some ⟨r,0,none⟩)) false ty).run P w=.ok (.tuple #[.bool false]) w) ∨
  ∃ e ∈ (Fd es seen).toList,∃ w1:World,(w1=w∨w1=w.drew)∧(Instr.next (.pointer (some ⟨r,0,none⟩)) false ty).run P w=.ok (.tuple #[.bool true,e.key,e.val]) (w1.putObj r (.mapIter (some bm) since (seen.push e.born) clock)):=by
 simp only [Instr.next,getObj,Sem.run_bind,Sem.run,hr,hb,Result.andThen,Go.next_test_false seen es since c0 hold hsc,Bool.false_eq_true,if_false]
 unfold Fd
 have hmem:∀ x ∈ (Array.filter (fun e=>!seen.contains e.born) es).toList,x.born < since:=fun x hx=>hold x (by simp at hx ⊢; exact hx.1)
 generalize Array.filter (fun e=>!seen.contains e.born) es=L at hmem ⊢
 have e1:L.filter (fun x=>decide (x.born < since))=L:=Array.filter_eq_self.2 (fun x hx=>by simpa using hmem x (by simpa using hx))
 have e2:L.filter (fun x=>decide (x.born ≥ since))=#[]:=by
  rw [Array.filter_eq_empty_iff]
  intro x hx
  have:=hmem x (by simpa using hx)
  simp
  omega
 simp only [e1,e2,Array.append_empty]
 by_cases h0:L.size=0
 ·left
  have:L=#[]:=Array.eq_empty_of_size_eq_zero h0
  subst this
  refine ⟨rfl,?_⟩
  simp [choose,Sem.run,Question.forced]
 ·right
  have hne:L.isEmpty=false:=by simp [Array.isEmpty,h0]
  simp only [hne,Bool.false_eq_true,if_false,Array.empty_append,Array.size_map]
  have hch:∃ (j:Nat) (w1:World),j < L.size∧(w1=w∨w1=w.drew)∧(choose (Question.mapNext L.size)).run P w=.ok j w1:=by
   by_cases hf:L.size≤1
   ·exact ⟨0,w,by omega,.inl rfl,by simp [choose,Sem.run,Question.forced,hf]⟩
   ·exact ⟨_,w.drew,Nat.mod_lt _ (by omega),.inr rfl,by
     simp only [choose,Sem.run,Question.forced,decide_eq_true_eq,hf,if_false,Question.cut]
     rfl⟩
  obtain ⟨j,w1,hj,hal,hrun⟩:=hch
  refine ⟨L[j],by simp,w1,hal,?_⟩
  have hr1:w1.heap[r]?=some (.mapIter (some bm) since seen c0):=by rcases hal with rfl | rfl <;> exact hr
  have hset:∀ (o':Obj),(setObj r o').run P w1=.ok () (w1.putObj r o'):=fun o'=>by
   simp only [setObj,Sem.run,hr1]; rfl
  simp only [hrun,Array.getElem?_map,Array.getElem?_eq_getElem hj,Option.map_some,Sem.run_bind,hset,Result.andThen]
  rfl
section
variable {P:Program} {r:RB} {N B:Nat} {S:Nat→Prop} {θ:Nat→Loc} {M:Nat→Prop} {w:World} {st:St} {a:Act} {o:Oper} {K:St→Prop} {Q:AEx→St→Prop}
theorem Ag7 {x:AV} {v:Value} {m:Nat} (h:Ak θ M w x v) (hx:x=.mp m):v=.map (some (θ m).blk):=by subst hx; cases h; rfl
theorem Ank {c:Code} {n:Nat} {X:Obj→Prop} (hn:st.o n=some (.obj X)) (h:∀ ob,X ob→AWP P r N c (st.setO n (.obj (fun o=>o=ob))) Q):AWP P r N c st Q:=by
 intro B S θ M w a hs
 obtain ⟨h0,ob,h1,h2⟩:=hs.ob n _ hn
 refine h ob h2 B S θ M w a ?_
 exact hs.upd (o':=.obj (fun o=>o=ob)) hn h0 rfl (fun _ _=>rfl) ⟨h0,ob,h1,rfl⟩ (AO.lives_obj _ _)
theorem Aco {t k e:TypeId} {x:Operand} {dd m:Nat} {es:Array MapEntry} {clock:Nat} (ho:o.op=.range t x) (hd:o.dst=some dd) (hN:dd < N) (hfree:st.o (r.b+dd)=none) (ht:(Aa P t).k=.mp k e) (hx:ev st.t x=.mp m) (hm:st.o m=some (.obj (Yn es clock)))
  (h:K ((st.setO (r.b+dd) (.it m (Sp clock #[] clock))).put o.dst (.ptr (r.b+dd) 0))):B2 P r N o st K:=by
 intro B S θ M w a Q hs
 refine ⟨fun _ _=>trivial,?_⟩
 rw [Oper.semAt_eq _ _ _ (by rw [ho]; intro c h; cases h)]
 have hxv:=Ag7 (Ao hs x) hx
 obtain ⟨hnil,ob,hob,hX⟩:=hs.ob m _ hm
 have hX:ob=.map es clock:=hX
 subst hX
 have hu:P.underlying t=some (.map k e):=Nh ht
 have hrun:(execOp a.eval o).run P w=.ok (.value (.pointer (some ⟨w.heap.size,0,none⟩))) (w.alloc (.mapIter (some (θ m).blk) clock #[] clock)):=by
  simp only [execOp,ho,hxv]
  refine J7 ?_
  exact Go.run_range_map w t k e _ es clock hu hob
 rw [hrun]
 have hk:∀ b,b < w.heap.size→(w.alloc (.mapIter (some (θ m).blk) clock #[] clock)).heap[b]?=w.heap[b]?:=fun b hb=>Gk w _ hb
 have hmd:m≠r.b+dd:=fun em=>by rw [em,hfree] at hm; cases hm
 have hS:=hs.new (d:=r.b+dd) hfree (w':=w.alloc (.mapIter (some (θ m).blk) clock #[] clock)) (l:=⟨w.heap.size,0,false⟩) (o:=.it m (Sp clock #[] clock)) (by simp) hk (fun _=>⟨Nat.le_refl _,by simp⟩)
  ⟨rfl,_,Ga w _,by rw [Az hmd]; rfl⟩ (AO.lives_it.2 (by
   show (upd st.o (r.b+dd) _ m).isSome=true
   rw [Aq hmd,hm]; rfl))
 refine ⟨_,h,⟨_,_,hS.put (d:=o.dst) (fun k e=>by rw [hd] at e; cases e; exact hN) (x:=.ptr (r.b+dd) 0) (v:=.pointer (some ⟨w.heap.size,0,none⟩)) ?_ ?_,A8.alloc _ _ _,fun n hn _=>Az (by omega),fun b _ hb _=>.inl hb⟩,by cases o.dst <;> rfl⟩
 ·have:=Ak.ptr (θ:=Dc θ (r.b+dd) ⟨w.heap.size,0,false⟩) (M:=fun b=>M b∨(false=false∧b=w.heap.size)) (w:=w.alloc (.mapIter (some (θ m).blk) clock #[] clock)) (r.b+dd) 0
  simpa using this
 ·intro q hq
  simp only [AV.clean,bne_eq_false_iff_eq] at hq
  subst hq
  simp [St.setO]
theorem Ae1 {x:Operand} {ri m since last:Nat} {seen:Array Nat} {es:Array MapEntry} {clock:Nat} (ho:o.op=.next x false) (hd:∀ k,o.dst=some k→k < N) (hx:ev st.t x=.ptr ri 0) (hri:st.o ri=some (.it m (Sp since seen last))) (hm:st.o m=some (.obj (Yn es clock)))
  (hold:∀ e ∈ es.toList,e.born < since) (hsc:since≤last) (hone:∀ e ∈ es.toList,e.key.oneCell'=true∧e.val.oneCell'=true)
  (h0:(Fd es seen).size=0→K (st.put o.dst (.tup [.p (.val (.bool false))])))
  (h1:∀ e ∈ (Fd es seen).toList,K ((st.setO ri (.it m (Sp since (seen.push e.born) clock))).put o.dst (.tup [.p (.val (.bool true)),.p (.val e.key),.p (.val e.val)]))):B2 P r N o st K:=by
 intro B S θ M w a Q hs
 refine ⟨fun _ _=>trivial,?_⟩
 rw [Oper.semAt_eq _ _ _ (by rw [ho]; intro c h; cases h)]
 have hxv:=Gu (Ao hs x) hx
 obtain ⟨hnil,ob,hob,hX⟩:=hs.ob m _ hm
 have hX:ob=.map es clock:=hX
 subst hX
 obtain ⟨rnil,ro,hro,rX⟩:=hs.ob ri _ hri
 have rX:ro=.mapIter (some (θ m).blk) since seen last:=rX
 subst rX
 have hlt:(θ ri).blk < w.heap.size:=hs.mlt _ (hs.lv ri _ hri rnil).1
 rcases Acb (P:=P) w o.type _ _ since last seen es clock hro hob hold hsc with ⟨g0,g1⟩ | ⟨e,he,w1,hw1,g1⟩
 ·have hrun:(execOp a.eval o).run P w=.ok (.value (.tuple #[.bool false])) w:=by
   simp only [execOp,ho,hxv]
   exact J7 g1
  rw [hrun]
  refine ⟨_,h0 g0,(Adv.put hs hd ?_ ?_).toM,by cases o.dst <;> rfl⟩
  ·refine .tup _ _ rfl (fun i x hx=>?_)
   match i,hx with
   | 0,hx=>cases hx; exact .p _ _ (.val _ rfl)
  ·refine AV.lives_tup.2 fun i x hx=>?_
   match i,hx with
   | 0,hx=>cases hx; exact AV.lives_p _ _
 ·have hrun:(execOp a.eval o).run P w=.ok (.value (.tuple #[.bool true,e.key,e.val])) (w1.putObj (θ ri).blk (.mapIter (some (θ m).blk) since (seen.push e.born) clock)):=by
   simp only [execOp,ho,hxv]
   exact J7 g1
  rw [hrun]
  have hs1:Ar N B S θ M w1 st a:=by
   rcases hw1 with rfl | rfl
   ·exact hs
   ·exact hs.drew
  have hK1:A8 (fun b=>B≤b∨S b) w w1:=by
   rcases hw1 with rfl | rfl
   ·exact A8.refl _ _
   ·exact A8.drew _ _
  have hlt1:(θ ri).blk < w1.heap.size:=by rcases hw1 with rfl | rfl <;> exact hlt
  have hkk:∀ b,b≠(θ ri).blk→(w1.putObj (θ ri).blk (.mapIter (some (θ m).blk) since (seen.push e.born) clock)).heap[b]?=w1.heap[b]?:=fun b hb=>World.putObj_heap_other hb
  have hS:=hs1.upd (o':=.it m (Sp since (seen.push e.born) clock)) hri rnil (by simp) hkk ⟨rnil,_,World.putObj_heap_same hlt1,rfl⟩ (AO.lives_it.2 (by rw [hm]; rfl))
  have hes:e ∈ es.toList:=by
   unfold Fd at he
   have:e ∈ Array.filter (fun e=>!seen.contains e.born) es:=by simpa using he
   simpa using (Array.mem_filter.1 this).1
  obtain ⟨o1,o2⟩:=hone e hes
  refine ⟨_,h1 e he,⟨θ,M,hS.put hd (x:=.tup [.p (.val (.bool true)),.p (.val e.key),.p (.val e.val)]) (v:=.tuple #[.bool true,e.key,e.val]) ?_ ?_,hK1.trans (A8.of_upd hs1 hri rnil (by simp) hkk rfl rfl rfl) (fun _ _ h=>h),fun _ _ _=>rfl,fun _ _ h _=>h⟩,by cases o.dst <;> rfl⟩
  ·refine .tup _ _ rfl (fun i x hx=>?_)
   match i,hx with
   | 0,hx=>cases hx; exact .p _ _ (.val _ rfl)
   | 1,hx=>cases hx; exact .p _ _ (.val _ o1)
   | 2,hx=>cases hx; exact .p _ _ (.val _ o2)
  ·refine AV.lives_tup.2 fun i x hx=>?_
   match i,hx with
   | 0,hx=>cases hx; exact AV.lives_p _ _
   | 1,hx=>cases hx; exact AV.lives_p _ _
   | 2,hx=>cases hx; exact AV.lives_p _ _
theorem Ab4 {x:Operand} {ri m since:Nat} {seen:Array Nat} {es:Array MapEntry} {clock:Nat} {e:MapEntry} (ho:o.op=.entry x) (hd:∀ k,o.dst=some k→k < N) (hx:ev st.t x=.ptr ri 0) (hri:st.o ri=some (.it m (Sp since (seen.push e.born) clock))) (hm:st.o m=some (.obj (Yn es clock)))
  (he:e ∈ es.toList) (hnd:(es.toList.map (·.born)).Nodup) (o1:e.key.oneCell'=true) (o2:e.val.oneCell'=true)
  (h1:K (st.put o.dst (.tup [.p (.val e.key),.p (.val e.val)]))):B2 P r N o st K:=by
 intro B S θ M w a Q hs
 refine ⟨fun _ _=>trivial,?_⟩
 rw [Oper.semAt_eq _ _ _ (by rw [ho]; intro c h; cases h)]
 have hxv:=Gu (Ao hs x) hx
 obtain ⟨hnil,ob,hob,hX⟩:=hs.ob m _ hm
 have hX:ob=.map es clock:=hX
 subst hX
 obtain ⟨rnil,ro,hro,rX⟩:=hs.ob ri _ hri
 have rX:ro=.mapIter (some (θ m).blk) since (seen.push e.born) clock:=rX
 subst rX
 have hf:es.find? (·.born == e.born)=some e:=by
  rw [← Array.find?_toList]
  exact Go.find_born e es.toList hnd he
 have hrun:(execOp a.eval o).run P w=.ok (.value (.tuple #[e.key,e.val])) w:=by
  simp only [execOp,ho,hxv]
  refine J7 ?_
  simp [Instr.entry,getObj,Sem.run,hro,hob,hf]
 rw [hrun]
 refine ⟨_,h1,(Adv.put hs hd ?_ ?_).toM,by cases o.dst <;> rfl⟩
 ·refine .tup _ _ rfl (fun i x hx=>?_)
  match i,hx with
  | 0,hx=>cases hx; exact .p _ _ (.val _ o1)
  | 1,hx=>cases hx; exact .p _ _ (.val _ o2)
 ·refine AV.lives_tup.2 fun i x hx=>?_
  match i,hx with
  | 0,hx=>cases hx; exact AV.lives_p _ _
  | 1,hx=>cases hx; exact AV.lives_p _ _
def Aar (S:List Int):Obj→Prop:=fun o=>∃ es clock,o=.map es clock∧(∀ e ∈ es.toList,e.born < clock)∧(es.toList.map (·.born)).Nodup∧(∀ e ∈ es.toList,e.val=.bool true∧∃ k,e.key=.int .i64 k∧k ∈ S∧inR k=true)∧∀ k ∈ S,∃ e ∈ es.toList,e.key=.int .i64 k
theorem Wv {t:TypeId} {dd:Nat} (ho:o.op=.makeMap t none) (hd:o.dst=some dd) (hN:dd < N) (hfree:st.o (r.b+dd)=none)
  (h:K ((st.setO (r.b+dd) (.obj (Aar []))).put o.dst (.mp (r.b+dd)))):B2 P r N o st K:=by
 intro B S θ M w a Q hs
 refine ⟨fun _ _=>trivial,?_⟩
 rw [Oper.semAt_eq _ _ _ (by rw [ho]; intro c h; cases h)]
 have hrun:(execOp a.eval o).run P w=.ok (.value (.map (some w.heap.size))) (w.alloc (.map #[] 0)):=by
  simp [execOp,ho,Instr.makeMap]
 rw [hrun]
 have hk:∀ b,b < w.heap.size→(w.alloc (.map #[] 0)).heap[b]?=w.heap[b]?:=fun b hb=>Gk w _ hb
 have hS:=hs.new (d:=r.b+dd) hfree (w':=w.alloc (.map #[] 0)) (l:=⟨w.heap.size,0,false⟩) (o:=.obj (Aar [])) (by simp) hk (fun _=>⟨Nat.le_refl _,by simp⟩)
  ⟨rfl,_,Ga w _,#[],0,rfl,by simp,by simp,by simp,by simp⟩ (AO.lives_obj _ _)
 refine ⟨_,h,⟨_,_,hS.put (d:=o.dst) (fun k e=>by rw [hd] at e; cases e; exact hN) (x:=.mp (r.b+dd)) (v:=.map (some w.heap.size)) ?_ ?_,A8.alloc _ _ _,fun n hn _=>Az (by omega),fun b _ hb _=>.inl hb⟩,by cases o.dst <;> rfl⟩
 ·have:=Ak.mp (θ:=Dc θ (r.b+dd) ⟨w.heap.size,0,false⟩) (M:=fun b=>M b∨(false=false∧b=w.heap.size)) (w:=w.alloc (.map #[] 0)) (r.b+dd)
  simpa using this
 ·intro m hm
  simp only [AV.clean,bne_eq_false_iff_eq] at hm
  subst hm
  simp [St.setO]
theorem Ac3 {x:AV} {v u:Value} (h:Ak θ M w x v) (hx:x=.p (.val u)):v=u:=by
 subst hx
 cases h with
 | p _ _ hp=>cases hp; rfl
theorem Aa5 {t k e:TypeId} {x i v:Operand} {m:Nat} {S0:List Int} {n:Int} (ho:o.op=.mapUpdate t x i v) (hd:o.dst=none) (ht:(Aa P t).k=.mp k e) (hk:P.underlying k=some (.int .i64)) (hx:ev st.t x=.mp m) (hm:st.o m=some (.obj (Aar S0))) (hi:ev st.t i=.p (.val (.int .i64 n))) (hn:inR n=true) (hv:ev st.t v=.p (.val (.bool true)))
  (h1:K (st.setO m (.obj (Aar (n :: S0))))):B2 P r N o st K:=by
 intro B S θ M w a Q hs
 refine ⟨fun _ _=>trivial,?_⟩
 rw [Oper.semAt_eq _ _ _ (by rw [ho]; intro c h; cases h)]
 have hxv:=Ag7 (Ao hs x) hx
 have hiv:=Ac3 (Ao hs i) hi
 have hvv:=Ac3 (Ao hs v) hv
 obtain ⟨hnil,ob,hob,es,clock,rfl,s1,s2,s3,s4⟩:=hs.ob m _ hm
 have hu:P.underlying t=some (.map k e):=Nh ht
 have KY:=Maps.int_keyed hk
 have hkey:∀ j:Int,inR j=true→∃ l,keyOf P k (.int .i64 j)=some l:=fun j hj=>by
  simp only [inR,Bool.and_eq_true,decide_eq_true_eq] at hj
  refine ⟨.int .i64 j,?_⟩
  have hwf:(Lit.int .i64 j).wf=true:=by simp [Lit.wf,IntKind.min,IntKind.max,IntKind.signed,IntKind.bits]; omega
  simp [keyOf,hk,mapKey,hwf]
 obtain ⟨l,hkl⟩:=hkey n hn
 have hchk:∀ em,(Instr.checkKey em 10000 k (.int .i64 n)).run P w=.ok () w:=fun em=>KY.check w em hkl
 have hlt:(θ m).blk < w.heap.size:=hs.mlt _ (hs.lv m _ hm hnil).1
 have fin:∀ es' clock',Aar (n :: S0) (.map es' clock')→∃ st',K st'∧Fin r N B S θ M w a st' (a.put o.dst undef) (w.putObj (θ m).blk (.map es' clock')):=by
  intro es' clock' hX
  have hkk:∀ b,b≠(θ m).blk→(w.putObj (θ m).blk (.map es' clock')).heap[b]?=w.heap[b]?:=fun b hb=>World.putObj_heap_other hb
  have hS:=hs.upd (o':=.obj (Aar (n :: S0))) hm hnil (by simp) hkk ⟨hnil,_,World.putObj_heap_same hlt,hX⟩ (AO.lives_obj _ _)
  rw [hd]
  exact ⟨_,h1,⟨θ,M,hS,A8.of_upd hs hm hnil (by simp) hkk rfl rfl rfl,fun _ _ _=>rfl,fun _ _ h _=>h⟩,rfl⟩
 rcases KY.find w hkl es.toList (fun q hq=>by
  obtain ⟨_,j,hj,_,hjr⟩:=s3 q hq
  rw [hj]
  exact hkey j hjr) with ⟨hf,hno⟩ | ⟨j,q,hf,hq,hqk⟩
 ·have hrun:(execOp a.eval o).run P w=.ok .skip (w.putObj (θ m).blk (.map (es.push { key:=.int .i64 n,val:=.bool true,born:=clock }) (clock+1))):=by
   simp [execOp,ho,hxv,hiv,hvv,Instr.mapUpdate,A5 hu,getObj,setObj,Sem.run,hob,hchk,hf,World.putObj]
  rw [hrun]
  refine fin _ _ ⟨_,_,rfl,fun q hq=>?_,?_,fun q hq=>?_,fun j hj=>?_⟩
  ·simp only [Array.toList_push,List.mem_append,List.mem_singleton] at hq
   rcases hq with hq | rfl
   ·have:=s1 q hq; omega
   ·exact Nat.lt_succ_self _
  ·simp only [Array.toList_push,List.map_append,List.map_cons,List.map_nil]
   refine List.nodup_append.2 ⟨s2,by simp,fun x hx y hy e=>?_⟩
   obtain ⟨q,hq,rfl⟩:=List.mem_map.1 hx
   have:=s1 q hq
   simp only [List.mem_singleton] at hy
   omega
  ·simp only [Array.toList_push,List.mem_append,List.mem_singleton] at hq
   rcases hq with hq | rfl
   ·obtain ⟨g1,j,g2,g3⟩:=s3 q hq
    exact ⟨g1,j,g2,by simp [g3.1],g3.2⟩
   ·exact ⟨rfl,n,rfl,by simp,hn⟩
  ·rcases List.mem_cons.1 hj with rfl | hj
   ·exact ⟨{ key:=.int .i64 j,val:=.bool true,born:=clock },by simp,rfl⟩
   ·obtain ⟨q,hq,g⟩:=s4 j hj
    exact ⟨q,by simp [hq],g⟩
 ·have hj':es[j]?=some q:=by simpa using hq
  have hst:=KY.stays w hkl
  have hrun:(execOp a.eval o).run P w=.ok .skip (w.putObj (θ m).blk (.map (es.modify j fun e=>{ e with key:=.int .i64 n,val:=.bool true }) clock)):=by
   simp [execOp,ho,hxv,hiv,hvv,Instr.mapUpdate,A5 hu,getObj,setObj,Sem.run,hob,hchk,hf,World.putObj,hj',hqk,hst]
  rw [hrun]
  have hqm:q ∈ es.toList:=List.mem_of_getElem? hq
  obtain ⟨v1,k1,v2,v3⟩:=s3 q hqm
  have hmod:es.modify j (fun e=>{ e with key:=.int .i64 n,val:=.bool true })=es:=by
   refine Array.ext_getElem? fun i=>?_
   rw [Array.getElem?_modify]
   split
   ·rename_i hi
    subst hi
    rw [hj',Option.map_some]
    congr 1
    obtain ⟨qk,qv,qb⟩:=q
    dsimp only at hqk v1
    subst hqk; subst v1; rfl
   ·rfl
  rw [hmod]
  have hk1:k1=n:=by rw [hqk] at v2; injection v2 with _ h; exact h.symm
  refine fin _ _ ⟨_,_,rfl,s1,s2,fun q hq=>?_,fun j hj=>?_⟩
  ·obtain ⟨g1,j,g2,g3⟩:=s3 q hq
   exact ⟨g1,j,g2,by simp [g3.1],g3.2⟩
  ·rcases List.mem_cons.1 hj with rfl | hj
   ·exact ⟨q,hqm,hqk⟩
   ·exact s4 j hj
end
section
variable {P:Program} {r:RB} {N:Nat}
theorem Ai2 {c:Code} {l:List (Nat × AV)} {m:List (Nat × AO)} {Q:AEx→St→Prop} (n:Nat) {X:Obj→Prop} (hn:O m n=some (.obj X)) (h:∀ ob,X ob→AWP P r N c ⟨T l,O ((n,.obj (fun o=>o=ob)) :: m)⟩ Q):AWP P r N c ⟨T l,O m⟩ Q:=Ank hn h
theorem Aeg {ι:Type} (l1:ι→List (Nat × AV)) (m1:ι→List (Nat × AO)) (ok:ι→Prop) {cd rest:Code} {K:St→Prop} {Q2 Q3:AEx→St→Prop} {s:St} (hK:∀ s',AWP P r N rest s' Q2→K s') (h3:∀ i,nmT (Ki (m1 i)) (l1 i)=true) (h4:∀ i,Vv (Ki (m1 i)) (m1 i)=true) (h1:AWP P r N cd s (fun e s'=>∃ i,ok i∧Aof (l1 i) (m1 i) e s')) (h2:∀ i,ok i→∀ K':St→Prop,(∀ s',AWP P r N rest s' Q2→K' s')→K' ⟨T (l1 i),O (m1 i)⟩):AWP P r N cd s (Jp K Q3):=
 h1.mono fun e s' ⟨i,hi,he,hl,ho⟩=>by subst he; exact hK s' (Adr (l1 i) (m1 i) hl ho (h3 i) (h4 i) (h2 i hi (fun s=>AWP P r N rest s Q2) fun _ h=>h))
end
theorem Tu {es:Array MapEntry} {seen:Array Nat} {e:MapEntry} (h:e ∈ (Fd es seen).toList):e ∈ es.toList∧e.born ∉ seen:=by
 unfold Fd at h
 rw [Array.toList_filter,List.mem_filter] at h
 exact ⟨h.1,by simpa using h.2⟩
theorem Ahz {es:Array MapEntry} {seen:Array Nat} {e:MapEntry} (h:e ∈ (Fd es seen).toList):(Fd es (seen.push e.born)).size < (Fd es seen).size:=by
 have h2:(Fd es (seen.push e.born)).toList=((Fd es seen).toList).filter fun x=>!(x.born == e.born):=by
  unfold Fd
  rw [Array.toList_filter,Array.toList_filter,List.filter_filter]
  congr 1
  funext x
  simp only [Array.contains_push,Bool.not_or]
  rw [Bool.and_comm]
 rw [← Array.length_toList,← Array.length_toList,h2]
 exact List.length_filter_lt_length_iff_exists.2 ⟨e,h,by simp⟩
theorem Ak0 {es:Array MapEntry} {seen:Array Nat} (h:(Fd es seen).size=0) {e:MapEntry} (he:e ∈ es.toList):e.born ∈ seen:=by
 rw [← Array.length_toList] at h
 unfold Fd at h
 rw [Array.toList_filter,List.length_eq_zero_iff,List.filter_eq_nil_iff] at h
 simpa using h e he
structure Axv (S:List Int) (es:Array MapEntry) (clock:Nat):Prop where
 old:∀ e ∈ es.toList,e.born < clock
 nd:(es.toList.map (·.born)).Nodup
 key:∀ e ∈ es.toList,e.val=.bool true∧∃ k,e.key=.int .i64 k∧k ∈ S∧inR k=true
 all:∀ k ∈ S,∃ e ∈ es.toList,e.key=.int .i64 k
theorem Asm {S:List Int} {ob:Obj} (h:Aar S ob):∃ es clock,ob=.map es clock∧Axv S es clock:=by
 obtain ⟨es,clock,rfl,h1,h2,h3,h4⟩:=h
 exact ⟨es,clock,rfl,h1,h2,h3,h4⟩
def T6 (p:Int→Bool) (es:Array MapEntry) (seen:Array Nat):Prop:=∀ e ∈ es.toList,e.born ∈ seen→∀ k,e.key=.int .i64 k→p k=false
theorem Ae5 {p:Int→Bool} {es:Array MapEntry}:T6 p es #[]:=fun _ _ h=>by simp at h
theorem Af1 {es:List MapEntry} (h:(es.map (·.born)).Nodup) {a b:MapEntry} (ha:a ∈ es) (hb:b ∈ es) (he:a.born=b.born):a=b:=by
 induction es with
 | nil=>cases ha
 | cons x l ih=>
  rw [List.map_cons,List.nodup_cons] at h
  rcases List.mem_cons.1 ha with e1 | g1 <;> rcases List.mem_cons.1 hb with e2 | g2
  ·rw [e1,e2]
  ·exact absurd (List.mem_map.2 ⟨b,g2,by rw [← he,e1]⟩) h.1
  ·exact absurd (List.mem_map.2 ⟨a,g1,by rw [he,e2]⟩) h.1
  ·exact ih h.2 g1 g2
theorem Abw {p:Int→Bool} {S:List Int} {es:Array MapEntry} {clock:Nat} {seen:Array Nat} {e:MapEntry} {k:Int} (hE:Axv S es clock) (h:T6 p es seen) (he:e ∈ es.toList) (hk:e.key=.int .i64 k) (hp:p k=false):T6 p es (seen.push e.born):=fun x hx hb j hj=>by
 rcases Array.mem_push.1 hb with hb | hb
 ·exact h x hx hb j hj
 ·have:=Af1 hE.nd hx he hb
  subst this
  rw [hk] at hj; injection hj with _ hj; subst hj; exact hp
theorem U0 {p:Int→Bool} {S:List Int} {es:Array MapEntry} {clock:Nat} {seen:Array Nat} (hE:Axv S es clock) (h:T6 p es seen) (h0:(Fd es seen).size=0):S.any p=false:=by
 rw [List.any_eq_false]
 intro k hk
 obtain ⟨e,he,hek⟩:=hE.all k hk
 rw [h e he (Ak0 h0 he) k hek]; simp
end AM
end
/- Plans in plain Lean: the steps that are tried, and what is found. -/
section
namespace AM.Wort
open Go AM
def Fw (vs:List Ves) (v:List Liq) (f t:Nat):Int:=if f≠t then min ((vs.getD t default).room - (B6 v t).g) (B6 v f).g else (vs.getD t default).room - (B6 v t).g
def Cy (f t n:Nat):Stp:=⟨if f≠t then 0 else 1,f,t,⟨(n:Int)+1,(n:Int)+1⟩⟩
def Qs (f t:Nat):Nat→Nat→List Stp
 | 0,_=>[]
 | c+1,n=>Cy f t n :: Qs f t c (n+1)
def N4 (vs:List Ves) (v:List Liq) (f:Nat):Nat→Nat→List Stp
 | 0,_=>[]
 | c+1,t=>Qs f t (Fw vs v f t).toNat 0++N4 vs v f c (t+1)
def N5 (vs:List Ves) (v:List Liq):Nat→Nat→List Stp
 | 0,_=>[]
 | c+1,f=>N4 vs v f vs.length 0++N5 vs v c (f+1)
def Gi (vs:List Ves) (v:List Liq):List Stp:=N5 vs v vs.length 0
theorem Yb {f t:Nat} {s:Stp}:∀ {c n:Nat},s ∈ Qs f t c n→∃ k,n≤k∧k < n+c∧s=Cy f t k
 | 0,_,h=>by cases h
 | c+1,n,h=>by
  rcases List.mem_cons.1 h with rfl | h
  ·exact ⟨n,Nat.le_refl _,by omega,rfl⟩
  ·obtain ⟨k,h1,h2,h3⟩:=Yb h
   exact ⟨k,by omega,by omega,h3⟩
theorem Xv {vs:List Ves} {v:List Liq} {f:Nat} {s:Stp}:∀ {c t:Nat},s ∈ N4 vs v f c t→∃ (t' k:Nat),t≤t'∧t' < t+c∧(k:Int) < Fw vs v f t'∧s=Cy f t' k
 | 0,_,h=>by cases h
 | c+1,t,h=>by
  rcases List.mem_append.1 h with h | h
  ·obtain ⟨k,h1,h2,h3⟩:=Yb h
   exact ⟨t,k,Nat.le_refl _,by omega,by omega,h3⟩
  ·obtain ⟨t',k,h1,h2,h3,h4⟩:=Xv h
   exact ⟨t',k,by omega,by omega,h3,h4⟩
theorem Ze {vs:List Ves} {v:List Liq} {s:Stp}:∀ {c f:Nat},s ∈ N5 vs v c f→∃ (f' t k:Nat),f' < f+c∧t < vs.length∧(k:Int) < Fw vs v f' t∧s=Cy f' t k
 | 0,_,h=>by cases h
 | c+1,f,h=>by
  rcases List.mem_append.1 h with h | h
  ·obtain ⟨t',k,h1,h2,h3,h4⟩:=Xv h
   exact ⟨f,t',k,by omega,by omega,h3,h4⟩
  ·obtain ⟨f',t,k,h2,h3,h4,h5⟩:=Ze h
   exact ⟨f',t,k,by omega,h3,h4,h5⟩
theorem Ako {vs:List Ves} {v:List Liq} {s:Stp} (h:s ∈ Gi vs v):∃ (f t k:Nat),f < vs.length∧t < vs.length∧(k:Int) < Fw vs v f t∧s=Cy f t k:=by
 obtain ⟨f,t,k,h1,h2,h3,h4⟩:=Ze h
 exact ⟨f,t,k,by omega,h2,h3,h4⟩
theorem Acm {f t k:Nat}:∀ {c n:Nat},n≤k→k < n+c→Cy f t k ∈ Qs f t c n
 | 0,_,h1,h2=>by omega
 | c+1,n,h1,h2=>by
  by_cases e:k=n
  ·subst e; exact List.mem_cons_self
  ·exact List.mem_cons_of_mem _ (Acm (by omega) (by omega))
theorem Abq {vs:List Ves} {v:List Liq} {f t' k:Nat} (hk:(k:Int) < Fw vs v f t'):∀ {c t:Nat},t≤t'→t' < t+c→Cy f t' k ∈ N4 vs v f c t
 | 0,_,h1,h2=>by omega
 | c+1,t,h1,h2=>by
  by_cases e:t'=t
  ·subst e; exact List.mem_append_left _ (Acm (by omega) (by omega))
  ·exact List.mem_append_right _ (Abq hk (by omega) (by omega))
theorem Abg {vs:List Ves} {v:List Liq} {f' t k:Nat} (ht:t < vs.length) (hk:(k:Int) < Fw vs v f' t):∀ {c f:Nat},f≤f'→f' < f+c→Cy f' t k ∈ N5 vs v c f
 | 0,_,h1,h2=>by omega
 | c+1,f,h1,h2=>by
  by_cases e:f'=f
  ·subst e; exact List.mem_append_left _ (Abq hk (by omega) (by omega))
  ·exact List.mem_append_right _ (Abg ht hk (by omega) (by omega))
theorem Alj {vs:List Ves} {v:List Liq} {f t k:Nat} (hf:f < vs.length) (ht:t < vs.length) (hk:(k:Int) < Fw vs v f t):Cy f t k ∈ Gi vs v:=Abg ht hk (by omega) (by omega)
theorem Am7 {f t n:Nat} (h:f≠t):avS (Cy f t n)=.agg [i64 0,i64 f,i64 t,i64 ((n:Int)+1),i64 ((n:Int)+1)]:=by
 unfold Cy; simp only [h,ne_eq,not_false_eq_true,if_true]
theorem Akg {f t n:Nat} (h:f=t):avS (Cy f t n)=.agg [i64 1,i64 f,i64 t,i64 ((n:Int)+1),i64 ((n:Int)+1)]:=by
 unfold Cy; simp only [h,ne_eq,not_true_eq_false,if_false]
theorem Agx {vs:List Ves} (hv:vs.all Er=true) {k:Nat} (hk:k < vs.length):(vs.getD k default).room≤60:=(C9 (List.all_eq_true.1 hv _ (Du default hk))).2.2.2
theorem Asg {vs:List Ves} (hv:vs.all Er=true) {k:Nat} (hk:k < vs.length):0≤(vs.getD k default).room:=(C9 (List.all_eq_true.1 hv _ (Du default hk))).2.2.1
theorem Anc {vs:List Ves} {v:List Liq} {s:Stp} (hv:OkV v) (hvs:vs.length≤4) (hva:vs.all Er=true) (h:s ∈ Gi vs v):F4 vs.length s=true∧1≤s.g.lo∧s.g.lo≤60∧(doS vs v s s.g.lo).2=true∧OkV (Gv v s s.g.lo).1∧(s.kind=0∨s.kind=1):=by
 obtain ⟨f,t,k,hf,ht,hk,rfl⟩:=Ako h
 have hr:=Agx hva ht
 have g1:=hv.g f
 have g2:=hv.g t
 have e1:=hv.e f
 have hl:=hv.len
 have hm:(k:Int)+1≤(vs.getD t default).room - (B6 v t).g:=by
  unfold Fw at hk; unfold B6 at *; split at hk <;> omega
 have h60:(k:Int)+1≤60:=by unfold B6 at hm; omega
 have hs:F4 vs.length (Cy f t k)=true:=by
  have k1:Hz ⟨(k:Int)+1,(k:Int)+1⟩ 60=true:=by
   simp only [Hz,Bool.and_eq_true,decide_eq_true_eq]; omega
  have k2:∀ x:Nat,x < vs.length→inB (x:Int) 0 ((vs.length:Int) - 1)=true:=fun x hx=>by
   simp only [inB,Bool.and_eq_true,decide_eq_true_eq]; omega
  by_cases e:f=t
  ·subst e
   simp only [F4,Cy,k1,k2 f hf,ne_eq,not_true_eq_false,if_false]; rfl
  ·simp only [F4,Cy,k1,k2 f hf,k2 t ht,ne_eq,e,not_false_eq_true,if_true]
   have:((f:Int)=(t:Int))=False:=eq_false (by omega)
   simp only [this]; rfl
 have hd:(doS vs v (Cy f t k) (Cy f t k).g.lo).2=true:=by
  simp only [doS,Bool.and_eq_true,decide_eq_true_eq]
  by_cases e:f=t
  ·subst e
   have hkd:(Cy f f k).kind=1:=by simp [Cy]
   have hto:(Cy f f k).to.toNat=f:=by simp [Cy]
   have hn:(Cy f f k).g.lo=(k:Int)+1:=rfl
   simp only [Gv,hkd,hto,hn]
   simp only [show ((1:Int)=0)=False by simp,if_false,if_true,P0]
   refine ⟨trivial,?_⟩
   rw [Mx,if_pos ⟨rfl,by omega⟩]
   show (B6 v f).g+_≤_
   omega
  ·have hkd:(Cy f t k).kind=0:=by simp [Cy,e]
   have hto:(Cy f t k).to.toNat=t:=by simp [Cy]
   have hfr:(Cy f t k).frm.toNat=f:=by simp [Cy]
   have hn:(Cy f t k).g.lo=(k:Int)+1:=rfl
   have hm2:(k:Int)+1≤(B6 v f).g:=by unfold Fw at hk; rw [if_pos e] at hk; omega
   simp only [Gv,hkd,hto,hfr,hn,if_true,G8]
   rw [if_neg (by omega),if_pos (by omega)]
   refine ⟨rfl,?_⟩
   unfold Mj J1
   rw [Mx,if_pos ⟨rfl,by rw [List.length_set]; omega⟩]
   show (B6 (v.set f _) t).g+_≤_
   rw [Mx,if_neg (by omega)]
   omega
 refine ⟨hs,by show 1≤(k:Int)+1; omega,h60,hd,Apd (s:=Cy f t k) hv hvs hva hs (by show 0≤(k:Int)+1; omega) hd,?_⟩
 show (if f≠t then (0:Int) else 1)=0∨_
 split
 ·exact .inl rfl
 ·right; show (if f≠t then (0:Int) else 1)=1; rw [if_neg (by assumption)]
def Wi (n:Nat) (v:List Liq) (g k:Int):Bool:=(v.take n).any fun l=>decide (l.g=g)&&decide (Q8 l=k)
def Co (vs:List Ves) (g k:Int):Nat→List Liq→List Stp→Option (List Stp)
 | 0,v,p=>if Wi vs.length v g k=true then some p else none
 | m+1,v,p=>(Gi vs v).findSome? fun s=>Co vs g k m (Gv v s s.g.lo).1 (p++[s])
def Ak9 (vs:List Ves) (g k:Int) (v:List Liq):Option (List Stp):=(Co vs g k 0 v []).or ((Co vs g k 1 v []).or (Co vs g k 2 v []))
def Kk (vs:List Ves):Bool:=vs.all fun x=>!(decide (1 < Fa x.g)||decide (1 < Fa x.d))
def C3 (vs:List Ves):List Liq × Bool:=M7 vs (vs.map (·.g.lo)) (vs.map (·.d.lo))
def M3 (g k:Int):Bool:=inB g 1 60&&inB k 0 120
def Hh (b:Eg) (g k:Int):AV:=
 if B5 b≠0 then .tup [C4,i64 (B5 b)]
 else if (Kk b.vs&&M3 g k)=false then .tup [C4,i64 2]
 else if (C3 b.vs).2=false then .tup [C4,i64 10]
 else match Ak9 b.vs g k (C3 b.vs).1 with
  | some p=>.tup [.p (.sl (p.map Pz)),i64 0]
  | none=>.tup [C4,i64 10]
end AM.Wort
end
/- Ranges over functions that yield values; searches of the beginning of an array. -/
section
namespace AM
open Go AM AM.Duty
open Nat renaming reduceLT→sA,reduceAdd→sB,reduceMul→sC,reduceSub→sD,reduceLeDiff→sE,reduceEqDiff→sF,reduceBEq→sG
open Int renaming reduceAdd→sH,reduceSub→sI,reduceMul→sJ,reduceLT→sK,reduceLE→sL,reduceNeg→sM,reduceToNat→sN,reduceEq→sO
set_option maxHeartbeats 4000000
abbrev Apv (k:F0) (j:Option Code):F0:={ k with state:=if j.isNone then .ready else .done,pending:=j }
structure Ahk (P:Program) (fv:AV) (F:Nat→Prop) {σ α:Type} (arg:α→AV) (l:List α) (go:σ→Prop) (I:σ→(Nat→Option AO)→Prop) (step:σ→α→σ × Bool):Prop where
  live:∀ s os,I s os→fv.lives os
  stable:∀ s os os',I s os→(∀ n,F n→os' n=os n)→I s os'
  foot:∀ s os n,I s os→F n→∃ o,os n=some o∧∀ m,o.clean m=false→F m
  next:∀ s x,x ∈ l→go s→(step s x).2=true→go (step s x).1
  call:∀ s x os bd,x ∈ l→go s→I s os→(Hp os).closed→Bh P bd fv [arg x] os fun res os'=>res=bl (step s x).2∧I (step s x).1 os'∧∀ n,¬ F n→os' n=os n
structure Zt (P:Program) (bdL:Nat) (k:F0) (tm:List (Nat × AV)) (v q:List Nat) (F:Nat→Prop) {σ α:Type} (arg:α→AV) (l:List α) (I:σ→(Nat→Option AO)→Prop) (bst:σ→α→σ × Option Code):Prop where
  ready:k=Apv k none
  lenp:k.ps.length=1
  psn:∀ p ∈ k.ps,p < k.n
  notF:¬ F bdL
  tmF:∀ m,(AO.loop k tm).clean m=false→F m
  stable:∀ s os os',I s os→(∀ n,F n→os' n=os n)→I s os'
  foot:∀ s os n,I s os→F n→∃ o,os n=some o∧∀ m,o.clean m=false→F m
  body:∀ s x os bd,x ∈ l→I s os→os bdL=some (.loop k tm)→(Hp os).closed→(∀ n,bd≤n→os n=none)→bdL < bd →
    ∀ rl,AWP P ⟨⟨some rl,fun _=>False⟩,bd,v,q⟩ k.n k.assign ⟨Jb k.ps [arg x] (T tm),os⟩ (Jp (fun s1=>s1.o bdL=some (.loop k tm)∧AWP P ⟨⟨some rl,fun _=>False⟩,bd,v,q⟩ k.n k.body ⟨s1.t,upd s1.o bdL (some (.loop { k with state:=.busy } tm))⟩
      (U7 bdL k tm fun res os'=>res=bl (bst s x).2.isNone∧(I (bst s x).1 os'∧os' bdL=some (.loop (Apv k (bst s x).2) tm))∧∀ n,¬ (F n∨n=bdL)→os' n=os n)) (fun _ _=>False))
theorem Zt.yields {P:Program} {bdL:Nat} {k:F0} {tm:List (Nat × AV)} {v q:List Nat} {F:Nat→Prop} {σ α:Type} {arg:α→AV} {l:List α} {I:σ→(Nat→Option AO)→Prop} {bst:σ→α→σ × Option Code} (h:Zt P bdL k tm v q F arg l I bst) :
    Ahk P (.yld bdL) (fun n=>F n∨n=bdL) arg l (fun (s:σ × Option Code)=>s.2=none) (fun s os=>I s.1 os∧os bdL=some (.loop (Apv k s.2) tm)) (fun s x=>(bst s.1 x,(bst s.1 x).2.isNone)) where
  live s os hI:=by rw [Qd,hI.2]; rfl
  stable s os os' hI he:=⟨h.stable s.1 os os' hI.1 (fun n hn=>he n (.inl hn)),(he bdL (.inr rfl)).trans hI.2⟩
  foot s os n hI hn:=by
    rcases hn with hn | rfl
    · obtain ⟨o,h1,h2⟩:=h.foot s.1 os n hI.1 hn
      exact ⟨o,h1,fun m hm=>.inl (h2 m hm)⟩
    · exact ⟨_,hI.2,fun m hm=>.inl (h.tmF m hm)⟩
  next s x hx hg hs:=Option.isNone_iff_eq_none.1 hs
  call s x os bd hx hg hI hcl0:=by
    have hloop:os bdL=some (.loop k tm):=by
      have:=hI.2
      rw [hg,← h.ready] at this
      exact this
    intro hfree
    have hb:=Ap hfree hloop
    refine Sn (fun hm=>hm) (k:=k) (tm:=tm) (v:=v) (q:=q) hloop (by rw [h.ready]; rfl) (by rw [h.lenp]; rfl) h.psn (fun hcl _ rl=>?_) hfree
    exact h.body s.1 x os bd hx hI.1 hloop hcl hfree hb rl
theorem Ayp {P:Program} {σ α:Type} {tS tE tF tI tB:Nat} {arg:α→AV} [Inhabited α] (hS:(Aa P tS).k=.sl tE) (hg:(Aa P tE).agg=some true) {sz:Nat} (hz:(Aa P tE).sz=sz) {fn:Func} {f:Nat} (hf:P.funcs[f]?=some fn) (hb:fn.body=some (Ayw tS tE tF tI tB)) (hN:fn.ntmps=19) (hrs:fn.results.toList=[.tmp 4]) (hcal:A7 P f=true)
    {fv:AV} {F:Nat→Prop} {l:List α} {I:σ→(Nat→Option AO)→Prop} {step:σ→α→σ × Bool} (hl:l.length < 1000000) (hT:Hd P fv F arg l I step) {s:σ} {os:Nat→Option AO} {bd nb:Nat} {cs:List AV} (hI:I s os) (hnb:os nb=some (.cells cs)) (hnF:¬ F nb) (hld:∀ k,k < l.length→Ai true sz (cs.drop (k * sz))=some (arg (l.getD k default))) :
    Bh P bd (.fn (.func f) [] []) [.csl nb 0 sz l.length,fv] os fun res os'=>res=i64 (Hk step s l 0).2∧I (Hk step s l 0).1 os'∧∀ n,¬ F n→os' n=os n:=by
  refine B3 (v:=[]) (q:=[]) (N:=19) (rs:=[.tmp 4]) hf hb hcal hN hrs (fun hcl hfree=>?_)
  have hfreeI:∀ (s1:σ) os1,I s1 os1→(∀ n,¬ F n→os1 n=os n)→∀ n,bd≤n→os1 n=none:=fun s1 os1 h1 h2 n hn=>by
    by_cases hFn:F n
    · obtain ⟨o,h3,_⟩:=hT.foot s os n hI hFn
      have:=Ap hfree h3; omega
    · rw [h2 n hFn]; exact hfree n hn
  have hcsl:∀ {os1:Nat→Option AO},os1 nb=some (.cells cs)→(AV.csl nb 0 sz l.length).lives os1:=fun h m hm=>by
    simp only [AV.clean,bne_eq_false_iff_eq] at hm
    subst hm; rw [h]; rfl
  refine Ab fun K1 hK1=>?_
  refine Ah ?_
  simp (disch:=omega) only [Nat.zero_add,eq_self,amL,sA,sB]
  refine hK1 _ ?_
  refine Ab fun K2 hK2=>?_
  refine Ab fun K3 hK3=>?_
  refine Ah ?_
  simp (disch:=omega) only [hS,eq_self,amL,sA,↓reduceIte,reduceCtorEq]
  refine hK3 _ ?_
  refine Au ?_
  skip
  refine Bg (α:=Nat × σ × (Nat→Option AO)) (fun x=>⟨T [(0,.csl nb 0 sz l.length),(1,fv),(8,i64 x.1),(7,i64 l.length)],x.2.2⟩) (fun x=>l.length - x.1) (fun x=>x.1≤l.length∧I x.2.1 x.2.2∧(Hp x.2.2).closed∧(∀ n,¬ F n→x.2.2 n=os n)∧Hk step x.2.1 (l.drop x.1) x.1=Hk step s l 0) (0,s,os) ?_ ?_ (fun x hx4 K4 hK4=>?_)
  · exact ⟨by simp,hI,hcl,fun _ _=>rfl,by simp⟩
  · refine G9 ?_ ?_ ?_ ?_ <;> (try simp (disch:=omega) only [eq_self,amL,sF,↓reduceIte,reduceCtorEq]); all_goals first | exact hcl | exact Sub.refl _ | exact hT.live _ _ hI | exact ⟨by rw [hnb]; rfl,hT.live _ _ hI⟩ | trace_state
  obtain ⟨k,s1,os1⟩:=x; dsimp only at hx4 ⊢; obtain ⟨hk,hI1,hcl1,hfr1,hsc⟩:=hx4; have hnb1:os1 nb=some (.cells cs):=(hfr1 nb hnF).trans hnb
  refine Ab fun K5 hK5=>?_
  refine Ah ?_
  simp (disch:=omega) only [eq_self,amL,sA,sF,↓reduceIte,reduceCtorEq]
  refine hK5 _ ?_
  refine Ab fun K6 hK6=>?_
  refine Al rfl (fun h=>?_) (fun h=>?_)
  ·first
   | exact Bool.noConfusion h
   |skip
    try simp only [decide_eq_true_eq] at h
    refine Am ?_
    refine hK6 _ ?_
    refine Ab fun K7 hK7=>?_
    refine Au ?_
    refine Ab fun K8 hK8=>?_
    refine Ah ?_
    simp (disch:=omega) only [eq_self,amL,sA,sF,↓reduceIte,reduceCtorEq]
    refine hK8 _ ?_
    refine Ab fun K9 hK9=>?_
    refine Ah ?_
    simp (disch:=omega) only [hnb1,hS,hz,hg,hld,Nat.zero_add,eq_self,amL,sA,sF,↓reduceIte,reduceCtorEq]
    refine A2 [(0,.csl nb 0 sz l.length),(1,fv),(5,i64 k),(8,i64 k),(7,i64 l.length)] (by decide) (hT.call s1 (l.getD k default) os1 bd (Abv default (by omega)) hI1 hcl1) (hfreeI _ _ hI1 hfr1) (Nat.le_refl _) (fun res os2 hR hcl2 hlv2=>?_)
    obtain ⟨rfl,hI2,hfr2⟩:=hR
    have hv2:=hT.live _ _ hI2
    have hnb2:os2 nb=some (.cells cs):=(hfr2 nb hnF).trans hnb1
    simp (disch:=omega) only [eq_self,amL,sF,↓reduceIte,reduceCtorEq]
    refine ⟨⟨by rw [hnb2]; rfl,hv2⟩,?_⟩
    refine hK9 _ ?_
    refine Al rfl (fun h=>?_) (fun h=>?_)
    ·first
     | exact Bool.noConfusion h
     |skip
      try simp only [Bool.not_eq_true',decide_eq_true_eq,decide_eq_false_iff_not,Bool.and_eq_true,Bool.not_eq_false',Bool.not_not,decide_not,Bool.not_true,Bool.not_false] at h
      refine Ab fun K10 hK10=>?_
      refine Ah ?_
      simp (disch:=omega) only [eq_self,amL,sA,sF,↓reduceIte,reduceCtorEq]
      refine hK10 _ ?_
      refine Aj ?_
      try simp (disch:=omega) only [amL]
      first | (refine A6 (res:=i64 _) os1 (by simp (disch:=omega) only [eq_self,amL,↓reduceIte]; try rfl) (Sub.refl _) hcl1 (AV.lives_p _ _) ?_ ; rw [Nm (by omega) hsc]; exact ⟨rfl,hI1,hfr1⟩) | (refine A6 (res:=i64 _) os2 (by simp (disch:=omega) only [eq_self,amL,↓reduceIte]; try rfl) (Sub.refl _) hcl2 (AV.lives_p _ _) ?_ ; rw [Ln default (by omega) h hsc]; exact ⟨rfl,hI2,fun n hn=>(hfr2 n hn).trans (hfr1 n hn)⟩)
    ·first
     | exact Bool.noConfusion h
     |skip
      try simp only [Bool.not_eq_true',decide_eq_true_eq,decide_eq_false_iff_not,Bool.and_eq_true,Bool.not_eq_false',Bool.not_not,decide_not,Bool.not_true,Bool.not_false] at h
      refine Am ?_
      refine hK7 _ ?_
      refine Ah ?_
      simp (disch:=omega) only [eq_self,amL,sA,sF,↓reduceIte,reduceCtorEq]
      refine hK4 (k+1,(step s1 (l.getD k default)).1,os2) _ ?_ ?_ (G9 ?_ ?_ ?_ ?_)
      all_goals (try simp (disch:=omega) only [eq_self,amL,sF,↓reduceIte,reduceCtorEq])
      all_goals first | exact ⟨by omega,hI2,hcl2,fun n hn=>(hfr2 n hn).trans (hfr1 n hn),X2 default (by omega) h hsc⟩ | omega | exact hcl2 | exact Sub.refl _ | exact hv2 | exact ⟨by rw [hnb2]; rfl,hv2⟩ | trace_state
  ·first
   | exact Bool.noConfusion h
   |skip
    try simp only [decide_eq_false_iff_not] at h
    refine Bq ?_
    refine hK2 _ ?_
    refine Ab fun K11 hK11=>?_
    refine Ah ?_
    simp (disch:=omega) only [eq_self,amL,sA,sM]
    refine hK11 _ ?_
    refine Aj ?_
    try simp (disch:=omega) only [amL,sM]
    first | (refine A6 (res:=i64 _) os1 (by simp (disch:=omega) only [eq_self,amL,sM,↓reduceIte]; try rfl) (Sub.refl _) hcl1 (AV.lives_p _ _) ?_ ; rw [Nm (by omega) hsc]; exact ⟨rfl,hI1,hfr1⟩) | (refine A6 (res:=i64 _) os2 (by simp (disch:=omega) only [hS,hz,hg,hld,Nat.zero_add,eq_self,amL,sA,sB,sC,sD,sE,sF,sG,sH,sI,sJ,sK,sL,sM,sN,sO,↓reduceIte,reduceCtorEq]; try rfl) (Sub.refl _) hcl2 (AV.lives_p _ _) ?_ ; rw [Ln default (by omega) h hsc]; exact ⟨rfl,hI2,fun n hn=>(hfr2 n hn).trans (hfr1 n hn)⟩)
theorem Axb {P:Program} {σ α:Type} {tS tE tF tI tB:Nat} {arg:α→AV} [Inhabited α] (hS:(Aa P tS).k=.sl tE) (hg:(Aa P tE).agg=some true) {sz:Nat} (hz:(Aa P tE).sz=sz) {fI fC:Nat} (hF:Mf P tS tE tF tI tB fI fC)
    {fv:AV} {F:Nat→Prop} {l:List α} {I:σ→(Nat→Option AO)→Prop} {step:σ→α→σ × Bool} (hl:l.length < 1000000) (hT:Hd P fv F arg l I step) {s:σ} {os:Nat→Option AO} {bd nb:Nat} {cs:List AV} (hI:I s os) (hnb:os nb=some (.cells cs)) (hnF:¬ F nb) (hld:∀ k,k < l.length→Ai true sz (cs.drop (k * sz))=some (arg (l.getD k default))) :
    Bh P bd (.fn (.func fC) [] []) [.csl nb 0 sz l.length,fv] os fun res os'=>res=bl (decide (0≤(Hk step s l 0).2))∧I (Hk step s l 0).1 os'∧∀ n,¬ F n→os' n=os n:=by
  obtain ⟨fi,i1,i2,i3,i4,i5⟩:=hF.i
  obtain ⟨fn,hf,hb,hN,hrs,hcal⟩:=hF.c
  have cI:=Ayp hS hg hz i1 i2 i3 i4 i5 hl hT (bd:=bd) hI hnb hnF hld
  refine B3 (v:=[fI]) (q:=[]) (N:=9) (rs:=[.tmp 4]) hf hb hcal hN hrs (fun hcl hfree=>?_)
  refine Ab fun K1 hK1=>?_
  refine Ah ?_
  simp (disch:=omega) only [amL,sA,sB]
  refine hK1 _ ?_
  refine Ab fun K2 hK2=>?_
  refine Ah ?_
  simp (disch:=omega) only [amL,sA,sF,↓reduceIte,reduceCtorEq]
  refine A2 [] (by decide) cI hfree (Nat.le_refl _) (fun res os2 hR hcl2 hlv2=>?_)
  obtain ⟨rfl,hI2,hfr2⟩:=hR
  simp (disch:=omega) only [amL,sA,↓reduceIte]
  refine hK2 _ ?_
  refine Aj ?_
  try simp (disch:=omega) only [amL]
  refine A6 (res:=bl _) os2 (by simp (disch:=omega) only [amL,↓reduceIte]; try rfl) (Sub.refl _) hcl2 (AV.lives_p _ _) ⟨rfl,hI2,hfr2⟩
theorem Aby {α:Type} {g:α→Bool}:∀ (l:List α) (k:Nat),decide (0≤(Hk (fun (_:Unit) x=>((),g x)) () l k).2)=l.any g
  | [],k=>rfl
  | x :: l,k=>by
    simp only [Hk,List.any_cons]
    cases h:g x with
    | true=>simp
    | false=>simp only [Bool.false_eq_true,if_false,Bool.false_or]; exact Aby l (k+1)
theorem Acd {l:List (Nat × AV)} {os:Nat→Option AO} {n k:Nat} {es:List (List PV)} (hcl:(Hp os).closed) (hn:os n=none):St.frz n es ⟨T l,upd os n (some (.arr k es))⟩=⟨T (Wr n es l),os⟩:=by
  unfold St.frz
  rw [Aul]
  congr 1
  funext m
  by_cases e:m=n
  · subst e; rw [if_pos rfl,hn]
  · rw [if_neg e]
    show (upd os n _ m).map _=_
    rw [Ac e]
    cases ho:os m with
    | none=>rfl
    | some o=>
      rw [Option.map_some,AO.frz_id o]
      cases hc:o.clean n with
      | true=>rfl
      | false=>
        have:(os n).isSome=true:=hcl.2 m o ho n hc
        rw [hn] at this; cases this
theorem Aix {P:Program} {r:RB} {N:Nat} {ops:List Oper} {id:Nat} {st:St} {Q:AEx→St→Prop} (cfs:List Cf) (dx:List Nat) (hm:P.follows .mixedOrders=true) (hchk:Qi P r.v r.q ops cfs=true) (hdx:Pc P ops=dx) (hfr:Aa9 st.o r.b dx) (h:EL P r N ops ops st (fun s=>(cfs.all fun c=>c.ok s.t)=true∧Q .normal s)):AWP P r N (.region id ops.toArray true) st Q:=
  Ac2 cfs hm hchk (fun d hd=>R0 hfr d (by rw [← hdx]; exact hd)) h
theorem T1 {P:Program} {r:RB} {N:Nat} {c:Code} {l:List (Nat × AV)} {os:Nat→Option AO} {Q:AEx→St→Prop} (n k i:Nat) (hn4:r.b≤n) (hi:T l i=.p (.val (.slice none 0 0))) (hfree:os n=none)
    (h:AWP P r N c ⟨T ((i,.own n 0) :: l),upd os n (some (.arr k []))⟩ Q):AWP P r N c ⟨T l,os⟩ Q:=Zb n k i hn4 hi hfree h
theorem Acv {P:Program} {r:RB} {N:Nat} {c:Code} {l:List (Nat × AV)} {os:Nat→Option AO} {n k:Nat} {es:List (List PV)} {Q:AEx→St→Prop} (hcl:(Hp os).closed) (hn:os n=none) (h:AWP P r N c ⟨T (Wr n es l),os⟩ Q):AWP P r N c ⟨T l,upd os n (some (.arr k es))⟩ Q:=
  Asi n (k:=k) (es:=es) (by show upd os n _ n=_; rw [Bc]) (by rw [Acd hcl hn]; exact h)
def pgO (n:Nat) (os:Nat→Option AO):Nat→Option AO:=fun m=>if m=n then none else (os m).map (AO.purge n)
theorem Hr {n:Nat} {l:List (Nat × AV)} {os:Nat→Option AO}:St.purge n ⟨T l,os⟩=⟨T (Ter n l),pgO n os⟩:=by
  rw [← Zx]; rfl
theorem Nr {n m:Nat} {os:Nat→Option AO} {o:AO} (h:m≠n):pgO n (upd os m (some o))=upd (pgO n os) m (some (o.purge n)):=by
  funext k
  by_cases e:k=m
  · subst e; rw [Bc]; unfold pgO; rw [if_neg h,Bc]; rfl
  · rw [Ac e]; unfold pgO; rw [Ac e]
theorem J9 {n:Nat} {os:Nat→Option AO} {x:Option AO}:pgO n (upd os n x)=pgO n os:=by
  funext k
  unfold pgO
  by_cases e:k=n
  · rw [if_pos e,if_pos e]
  · rw [if_neg e,if_neg e,Ac e]
theorem Adf {n:Nat} {os:Nat→Option AO} (hcl:(Hp os).closed) (hn:os n=none):pgO n os=os:=by
  funext m
  unfold pgO
  by_cases e:m=n
  · subst e; rw [if_pos rfl,hn]
  · rw [if_neg e]
    cases ho:os m with
    | none=>rfl
    | some o=>
      have hc:o.clean n=true:=by
        cases hc:o.clean n with
        | true=>rfl
        | false=>
          have:(os n).isSome=true:=hcl.2 m o ho n hc
          rw [hn] at this; cases this
      cases o with
      | cells cs=>show some (AO.cells (cs.map _))=_; rw [Lo hc]
      | arr k es=>rfl
      | obj X=>rfl
      | it m X=>
        have hmn:m≠n:=by simpa [AO.clean] using hc
        show some (if m=n then _ else _)=_
        rw [if_neg hmn]
      | loop k tm=>
        show some (AO.loop k (tm.map fun p=>(p.1,p.2.purge n)))=_
        congr 2
        have hc:AV.clean.cleanL n (tm.map (·.2))=true:=hc
        clear ho
        induction tm with
        | nil=>rfl
        | cons p tm ih=>
          have h':p.2.clean n=true∧AV.clean.cleanL n (tm.map (·.2))=true:=by simpa [AV.clean.cleanL] using hc
          rw [List.map_cons,ih h'.2 h'.2]
          congr 1
          unfold AV.purge
          rw [if_pos h'.1]
end AM
end
/- The abstract machine, part 69: several slice literals of a region are values at once. -/
section
namespace AM
open Go
section
variable {P:Program} {r:RB} {N:Nat} {s:St} {K:St→Prop} {dst:Option Nat} {ty:TypeId} {pos:String} {after:Array Edge} {all rest:List Oper}
def ELm (P:Program) (r:RB) (N:Nat) (all:List Oper):List Bool→List Oper→St→(St→Prop)→Prop
 | [],l,s,K=>EL P r N all l s K
 | true :: fs,o :: rest,s,K=>o.guard=none∧EPb P N o s fun s'=>ELm P r N all fs rest s' K
 | false :: fs,o :: rest,s,K=>o.guard=none∧EO P r N o s fun s'=>ELm P r N all fs rest s' K
 | _ :: _,[],_,_=>False
theorem Ru:∀ {l:List Oper} {fs:List Bool} {s:St} {K:St→Prop},ELm P r N all fs l s K→AL P r N all l s K
 | l,[],s,K,h=>by unfold ELm at h; exact Dd h
 | ⟨dst,op,ty,pos,after,g⟩ :: rest,true :: fs,s,K,h=>by
  obtain ⟨h1,h2⟩:=h
  have h1:g=none:=h1
  subst h1
  exact AL.step ((Yi h2).mono fun s' h'=>Ru h')
 | ⟨dst,op,ty,pos,after,g⟩ :: rest,false :: fs,s,K,h=>by
  obtain ⟨h1,h2⟩:=h
  have h1:g=none:=h1
  subst h1
  exact AL.step ((Fg h2).mono fun s' h'=>Ru h')
 | [],true :: _,_,_,h=>h.elim
 | [],false :: _,_,_,h=>h.elim
theorem Xx (fs:List Bool) {Q:AEx→St→Prop} {id:Nat} {ops:List Oper} (h:ELm P r N ops fs ops s (Q .normal)):AWP P r N (.region id ops.toArray false) s Q:=C2 (Ru h)
def EKm (P:Program) (r:RB) (N:Nat) (all:List Oper) (fs:List Bool) (rest:List Oper) (K:St→Prop) (s:St):Prop:=ELm P r N all fs rest s K
theorem Ud {t:Nat→AV} {o:Nat→Option AO} {fs:List Bool}:EKm P r N all fs rest K ⟨t,o⟩=ELm P r N all fs rest ⟨t,o⟩ K:=rfl
theorem Age:ELm P r N all [] rest s K=EL P r N all rest s K:=by unfold ELm; rfl
theorem Ad2 {o:Op} {fs:List Bool}:ELm P r N all (true :: fs) (⟨dst,o,ty,pos,after,none⟩ :: rest) s K=EPb P N ⟨dst,o,ty,pos,after,none⟩ s (EKm P r N all fs rest K):=propext ⟨fun h=>h.2,fun h=>⟨rfl,h⟩⟩
theorem Aa8 {o:Op} {fs:List Bool}:ELm P r N all (false :: fs) (⟨dst,o,ty,pos,after,none⟩ :: rest) s K=EO P r N ⟨dst,o,ty,pos,after,none⟩ s (EKm P r N all fs rest K):=propext ⟨fun h=>h.2,fun h=>⟨rfl,h⟩⟩
end
end AM
end
/- Arguments that are read: rows of numbers as brewhouses, truths, readings. -/
section
namespace AM.Wort
open Go AM
def Acj (r:Rng):Prop:=inR r.lo=true∧inR r.hi=true
def Awi (v:Ves):Prop:=Acj v.g∧Acj v.d∧inR v.room=true
def Au6 (s:Stp):Prop:=inR s.kind=true∧inR s.frm=true∧inR s.to=true∧Acj s.g
def Auk (r:Rdg):Prop:=inR r.v=true∧Acj r.g∧Acj r.d
def Alh (b:Eg):Prop:=(∀ v ∈ b.vs,Awi v)∧∀ s ∈ b.ss,Au6 s
def mkV (l:List Int):Ves:=⟨⟨l.getD 0 0,l.getD 1 0⟩,⟨l.getD 2 0,l.getD 3 0⟩,l.getD 4 0⟩
def mkS (l:List Int):Stp:=⟨l.getD 0 0,l.getD 1 0,l.getD 2 0,⟨l.getD 3 0,l.getD 4 0⟩⟩
def mkD (l:List Int):Rdg:=⟨l.getD 0 0,⟨l.getD 1 0,l.getD 2 0⟩,⟨l.getD 3 0,l.getD 4 0⟩⟩
abbrev Ard (k:Nat) (R:List (List Int)):Prop:=∀ r ∈ R,r.length=k∧∀ m ∈ r,inR m=true
theorem Us {α:Type} {k:Nat} {R:List (List Int)} (h:Ard k R) (mk:List Int→α) (enc:α→List PV) (he:∀ l:List Int,l.length=k→enc (mk l)=l.map iv):(R.map mk).map enc=R.map fun r=>r.map iv:=by
 rw [List.map_map]; exact List.map_congr_left fun r hr=>he r (h r hr).1
theorem Aam {α:Type} {k:Nat} {R:List (List Int)} (h:Ard k R) (mk:List Int→α) (I:α→Prop) (he:∀ l:List Int,l.length=k→(∀ m ∈ l,inR m=true)→I (mk l)):∀ x ∈ R.map mk,I x:=fun x hx=>by
 obtain ⟨r,hr,rfl⟩:=List.mem_map.1 hx
 exact he r (h r hr).1 (h r hr).2
theorem Aqd (l:List Int) (h:l.length=5):Aeo (mkV l)=l.map iv:=by match l,h with | [a,b,c,d,e],_=>rfl
theorem Arw (l:List Int) (h:l.length=5):Pz (mkS l)=l.map iv:=by match l,h with | [a,b,c,d,e],_=>rfl
theorem Aqf (l:List Int) (h:l.length=5):Aye (mkD l)=l.map iv:=by match l,h with | [a,b,c,d,e],_=>rfl
theorem Aw8 (l:List Int) (h:l.length=5) (hm:∀ m ∈ l,inR m=true):Awi (mkV l):=by match l,h with | [a,b,c,d,e],_=>exact ⟨⟨hm _ (by simp [mkV]),hm _ (by simp [mkV])⟩,⟨hm _ (by simp [mkV]),hm _ (by simp [mkV])⟩,hm _ (by simp [mkV])⟩
theorem Ay1 (l:List Int) (h:l.length=5) (hm:∀ m ∈ l,inR m=true):Au6 (mkS l):=by match l,h with | [a,b,c,d,e],_=>exact ⟨hm _ (by simp [mkS]),hm _ (by simp [mkS]),hm _ (by simp [mkS]),hm _ (by simp [mkS]),hm _ (by simp [mkS])⟩
theorem Azb (l:List Int) (h:l.length=5) (hm:∀ m ∈ l,inR m=true):Auk (mkD l):=by match l,h with | [a,b,c,d,e],_=>exact ⟨hm _ (by simp [mkD]),⟨hm _ (by simp [mkD]),hm _ (by simp [mkD])⟩,hm _ (by simp [mkD]),hm _ (by simp [mkD])⟩
theorem Arf {vs ss:List (List Int)} (h1:Ard 5 vs) (h2:Ard 5 ss):Alh ⟨vs.map mkV,ss.map mkS⟩:=⟨Aam h1 mkV _ Aw8,Aam h2 mkS _ Ay1⟩
end AM.Wort
end
/- The statements: what is read of the arguments is what the walks take; what a pure call leaves is what the statements ask. For any program. -/
section
namespace AM
set_option maxRecDepth 100000
open Go AM Go.ChangeShapes Go.WideShapes Go.ChangeAt Go.RowKit
structure BrP (P:Program):Prop where
 kids:Kids P (· < P.types.size)
 full:∀ t e,t < P.types.size→P.underlying t=some (.slice e)→0 < P.cellsOf e
 bool:P.underlying 4=some .bool
section
variable {P:Program} {H:Type} {enc:TypeId × Value→H} {W W':World}
theorem Ash (hk:A8 (fun b=>W.heap.size≤b) W W') {p:MemPlace} (hp:p.block < W.heap.size):W.sameAt W' p:=by
 have h:=hk.same p.block hp (by omega)
 cases p with
 | cell b off=>simp only [World.sameAt,World.cell?]; rw [show W'.heap[b]?=W.heap[b]? from h]
 | map b=>exact h
theorem Se (hP:BrP P) (hk:A8 (fun b=>W.heap.size≤b) W W') (sp:Nat→Bool):∀ {ts:List TypeId} {vs:List Value} {ds:List (DataW H)} {p:List MemPlace},
  (∀ t ∈ ts,t < P.types.size)→DataW.TrodAll enc P W 0 (fun _=>true) true ts vs ds p→(∀ x ∈ p,x.block < W.heap.size)→(∀ x ∈ p,sp x.block=true)→DataW.TrodAll enc P W' 0 sp true ts vs ds p
 | [],[],[],_,_,h,_,_=>h
 | _ :: _,_ :: _,_ :: _,_,hT,⟨p,q,⟨n,h1⟩,h2,e⟩,hl,hs=>
  ⟨p,q,⟨n,DataW.trod_stays hP.kids (fun ht hu=>hP.full _ _ ht hu) (fun h=>by cases h) (hT _ (List.mem_cons.2 (Or.inl rfl))) h1 (fun x hx=>Ash hk (hl x (by rw [e]; exact List.mem_append_left _ hx))) (fun x hx=>hs x (by rw [e]; exact List.mem_append_left _ hx))⟩,
   Se hP hk sp (fun t ht=>hT t (List.mem_cons.2 (Or.inr ht))) h2 (fun x hx=>hl x (by rw [e]; exact List.mem_append_right _ hx)) (fun x hx=>hs x (by rw [e]; exact List.mem_append_right _ hx)),e⟩
theorem Wl (hk:A8 (fun b=>W.heap.size≤b) W W') (may:MemPlace→Prop):W.keptBut W' may:=by
 refine ⟨hk.os,hk.output,fun i hi=>?_⟩
 have h:=hk.same i hi (by omega)
 rw [h]
 cases W.heap[i]? with
 | none=>rfl
 | some o=>cases o <;> first | exact ⟨rfl,rfl,rfl,fun _ _=>rfl⟩ | exact .inr ⟨rfl,rfl⟩ | rfl
theorem Alo (hP:BrP P) {fn:Func} {s:ChangeSpec} {args:Array Value} {ds gs:List (DataW H)} {before:List MemPlace} (hr:fn.resultTypes=#[4]) (hp:∀ t ∈ fn.params.toList,t < P.types.size) (hv:s.vars=[])
  (hfn:s.fn H (ds++gs)={ results:=[.lit (.bool true)],args:=ds }) (hW:DataW.Whole enc P fn.params.toList s.vars false W args.toList ds gs before) (hk:A8 (fun b=>W.heap.size≤b) W W') :
  s.post enc P fn false true false false W args (.bool true) W':=by
 have hW0:=hW
 obtain ⟨p,q,hA,hV,rfl,hz,hn⟩:=hW
 rw [hv] at hV
 obtain ⟨rfl,rfl⟩:=trodVars_none hV
 have hlt:∀ x ∈ p,x.block < W.heap.size:=hA.lt
 refine ⟨ds,[],p++[],[],p,[],hW0,?_,?_,?_,World.keptBut_mono (fun x hx=>⟨hx,.inr (.inl (by simpa using hx))⟩) (Wl hk _),fun h=>by cases h⟩
 ·rw [hfn,hr]; exact trodAll_mk1 (shut_bool hP.bool true)
 ·rw [hfn]; exact Se hP hk _ hp hA hlt (fun x hx=>by simpa using hlt x hx)
 ·rw [hfn,hv]; rfl
theorem law_calls (hP:BrP P) {f:FuncId} {avs:List AV} {fn:Func} {s:ChangeSpec} {args:Array Value} {ds gs:List (DataW H)} {before:List MemPlace} (hc:Bu P f avs (bl true)) (hsz:args.size=avs.length) (hrel:∀ θ (i:Nat) (x:AV),avs[i]?=some x→Ak θ (fun _=>False) W x (args.getD i undef))
  (hr:fn.resultTypes=#[4]) (hp:∀ t ∈ fn.params.toList,t < P.types.size) (hv:s.vars=[]) (hfn:s.fn H (ds++gs)={ results:=[.lit (.bool true)],args:=ds }) (hW:DataW.Whole enc P fn.params.toList s.vars false W args.toList ds gs before) :
  Calls P f args W fun e W'=>∃ v,e=.returned v∧s.post enc P fn false true false false W args v W':=by
 refine (hc.2 (fun _=>⟨0,0,true⟩) (fun _=>False) W args (fun b h=>h.elim) hsz (fun i x hx=>hrel _ i x hx)).mono ?_
 rintro e W' ⟨v,rfl,hv',hk⟩
 cases hv' with
 | p _ _ h=>
  cases h with
  | val _ _=>exact ⟨_,rfl,Alo hP hr hp hv hfn hW hk⟩
theorem Aih {rows:List (List Int)} {b o len cap k:Nat} (hlen:rows.length=len) (hc:len≤cap) (hk:∀ r ∈ rows,r.length=k)
  (hcell:∀ (i:Nat) (r:List Int) (j:Nat) (m:Int),rows[i]?=some r→r[j]?=some m→W.cell? ⟨b,o+(i * k+j),none⟩=some (.int .i64 m)):Ck (fun _=>False) W (.sl (rows.map fun r=>r.map iv)) (.slice (some ⟨b,o,none⟩) len cap):=by
 have h:=Ck.sl (M:=fun _=>False) (w:=W) (rows.map fun r=>r.map iv) b o cap k (fun i j=>(W.cell? ⟨b,o+(i * k+j),none⟩).getD undef) (fun i e he=>?_) (by rw [List.length_map,hlen]; exact hc) (fun i e j x he hx=>?_) (fun i e j x he hx=>?_)
 ·rw [List.length_map,hlen] at h; exact h
 ·simp only [List.getElem?_map,Option.map_eq_some_iff] at he
  obtain ⟨r,hr,rfl⟩:=he
  rw [List.length_map]; exact hk r (List.mem_of_getElem? hr)
 all_goals
  simp only [List.getElem?_map,Option.map_eq_some_iff] at he
  obtain ⟨r,hr,rfl⟩:=he
  simp only [List.getElem?_map,Option.map_eq_some_iff] at hx
  obtain ⟨m,hm,rfl⟩:=hx
  have hc:=hcell i r j m hr hm
  rw [hc]
 ·exact ⟨fun h=>h,rfl⟩
 ·exact .val _ rfl
theorem inR_wfB {m:Int} (h:(Lit.int .i64 m).wf=true):inR m=true:=by
 simp only [Lit.wf,IntKind.min,IntKind.max,IntKind.signed,IntKind.bits,Bool.and_eq_true,decide_eq_true_eq] at h
 simp only [inR,Bool.and_eq_true,decide_eq_true_eq]
 constructor <;> simp_all
theorem Adp {b o i:Nat}:Addr.add ⟨b,o,none⟩ i=⟨b,o+i,none⟩:=by
 unfold Addr.add
 split
 ·rename_i h; simp_all
 ·rfl
theorem open_recs {t e k fuel:Nat} {cs:List Value} {x:DataW H × List MemPlace} (ht:P.underlying t=some (.slice e)) (hk:P.cellsOf e=k)
  (hel:∀ n cs x,DataW.trod enc P W 0 (fun _=>true) true n e cs=some x→∃ ms:List Int,cs=ms.map (fun m=>Value.int .i64 m)∧ms.length=k∧∀ m ∈ ms,inR m=true)
  (h:DataW.trod enc P W 0 (fun _=>true) true fuel t cs=some x) (hsp:∀ a len cap,cs=[.slice (some a) len cap]→a.spot=none) :
  ∃ rows:List (List Int),(∀ r ∈ rows,r.length=k∧∀ m ∈ r,inR m=true)∧∃ v,cs=[v]∧Ck (fun _=>False) W (.sl (rows.map fun r=>r.map iv)) v:=by
 rcases Go.Deep.open_slice ht h with ⟨rfl,_⟩ | ⟨a,len,cap,m,n,D,Pl,rfl,_,hl,hm,hmm,_,hi⟩
 ·exact ⟨[],by simp,_,rfl,.nil⟩
 ·have hs:=hsp a len cap rfl
  obtain ⟨b,o,sp⟩:=a
  dsimp only at hs; subst hs
  simp only [if_true] at hmm
  subst hmm
  obtain ⟨F,hF⟩:=Go.Deep.choose_lt (α:=List Int) (n:=m) (p:=fun i ms=>W.cells? 0 (Addr.add ⟨b,o,none⟩ (i * k)) k=some (ms.map fun m=>Value.int .i64 m)∧ms.length=k∧∀ m ∈ ms,inR m=true) (fun i h1=>by
   obtain ⟨cs',h2,h3⟩:=hi i h1
   obtain ⟨ms,rfl,h4,h5⟩:=hel _ _ _ h3
   rw [hk] at h2
   exact ⟨ms,h2,h4,h5⟩)
  refine ⟨(List.range len).map F,fun r hr=>?_,_,rfl,Aih (k:=k) (by simp) hl (fun r hr=>?_) (fun i r j m hr hm=>?_)⟩
  ·obtain ⟨i,h1,rfl⟩:=List.mem_map.1 hr
   exact (hF i (by have:=List.mem_range.1 h1; omega)).2
  ·obtain ⟨i,h1,rfl⟩:=List.mem_map.1 hr
   exact (hF i (by have:=List.mem_range.1 h1; omega)).2.1
  ·simp only [List.getElem?_map,Option.map_eq_some_iff] at hr
   obtain ⟨i',h1,rfl⟩:=hr
   have hlt:i < len:=by
    have:=(List.getElem?_eq_some_iff.1 h1).1; simpa using this
   have e:i'=i:=by
    rw [List.getElem?_range hlt] at h1; exact (Option.some.inj h1).symm
   subst e
   obtain ⟨h2,h3,_⟩:=hF i' (by omega)
   obtain ⟨_,_,h4⟩:=World.cells?_some h2
   have hj:j < k:=by rw [← h3]; exact (List.getElem?_eq_some_iff.1 hm).1
   have h5:=h4 j hj
   rw [List.getElem?_map,hm] at h5
   rw [Adp,Adp,Nat.add_assoc] at h5
   exact h5
theorem Bam {t j n:Nat} {cs:List Value} {x:DataW H × List MemPlace} (h:DataW.trod enc P W 0 (fun _=>true) true n t ((cs.drop j).take 1)=some x) (hj:j < cs.length):∃ v,cs[j]?=some v∧DataW.trod enc P W 0 (fun _=>true) true n t [v]=some x:=by
 refine ⟨cs[j],List.getElem?_eq_getElem hj,?_⟩
 rw [List.drop_eq_getElem_cons hj] at h
 exact h
def Pb (P:Program) (t:TypeId) (k:Nat):Prop:=∀ {H:Type} {enc:TypeId × Value→H} {W:World} (n:Nat) (cs:List Value) (x:DataW H × List MemPlace),DataW.trod enc P W 0 (fun _=>true) true n t cs=some x→∃ ms:List Int,cs=ms.map (fun m=>Value.int .i64 m)∧ms.length=k∧∀ m ∈ ms,inR m=true
theorem Al5 {t:TypeId} (h:P.underlying t=some (.int .i64)):Pb P t 1:=fun n cs x hx=>by
 obtain ⟨m,rfl,_,hw⟩:=DataW.trod_int h hx
 exact ⟨[m],rfl,rfl,fun y hy=>by rw [List.mem_singleton.1 hy]; exact inR_wfB hw⟩
def Bdr (l:List (Nat × Nat)) (K:Nat):Bool:=(List.range K).all fun j=>l.any fun p=>decide (p.1≤j)&&decide (j < p.1+p.2)
theorem Jr {e K:Nat} {fs:Array Field} (he:P.underlying e=some (.struct fs)) (hc:P.cellsOf e=K) (hf:∀ f ∈ fs.toList,∃ k,Pb P f.type k) (hcov:Bdr (fs.toList.map fun f=>(f.offset,P.cellsOf f.type)) K=true):Pb P e K:=fun n cs x hx=>by
 obtain ⟨xs,n',_,_,hl,hxs,hg⟩:=DataW.trod_struct he hx
 rw [hc] at hl
 have key:∀ j,j < K→∃ m,cs[j]?=some (Value.int .i64 m)∧inR m=true:=fun j hj=>by
  have h1:=List.all_eq_true.1 hcov j (List.mem_range.2 hj)
  obtain ⟨p,hp,h2⟩:=List.any_eq_true.1 h1
  obtain ⟨f,hm,rfl⟩:=List.mem_map.1 hp
  simp only [Bool.and_eq_true,decide_eq_true_eq] at h2
  obtain ⟨i,hi⟩:=List.mem_iff_getElem?.1 hm
  obtain ⟨k,hk⟩:=hf f hm
  have hi':fs[i]?=some f:=by simpa using hi
  have h3:=hg i f hi'
  have hix:i < xs.length:=by
   rw [hxs]; exact (Array.getElem?_eq_some_iff.1 hi').1
  rw [List.getElem?_eq_getElem hix] at h3
  obtain ⟨ms,h4,h5,h6⟩:=hk _ _ _ h3
  have h7:((cs.drop f.offset).take (P.cellsOf f.type))[j - f.offset]?=cs[j]?:=by
   rw [List.getElem?_take,if_pos (by omega),List.getElem?_drop]; congr 1; omega
  have hjl:j < cs.length:=by omega
  rw [h4,List.getElem?_map,List.getElem?_eq_getElem hjl] at h7
  cases hq:ms[j - f.offset]? with
  | none=>rw [hq] at h7; cases h7
  | some m=>
   rw [hq] at h7
   refine ⟨m,?_,h6 m (List.mem_of_getElem? hq)⟩
   rw [List.getElem?_eq_getElem hjl]; exact h7.symm
 obtain ⟨F,hF⟩:=Go.Deep.choose_lt (n:=K) (p:=fun j m=>cs[j]?=some (Value.int .i64 m)∧inR m=true) key
 refine ⟨(List.range K).map F,?_,by simp,fun m hm=>?_⟩
 ·refine List.ext_getElem? fun j=>?_
  by_cases hj:j < K
  ·rw [(hF j hj).1]; simp [hj]
  ·rw [List.getElem?_eq_none (by omega),List.getElem?_eq_none (by simp; omega)]
 ·obtain ⟨j,hj,rfl⟩:=List.mem_map.1 hm
  exact (hF j (List.mem_range.1 hj)).2
theorem open_rows {base t e k:Nat} {v:Value} {d:DataW H} {p:List MemPlace} (ht:P.underlying t=some (.slice e)) (hk:P.cellsOf e=k) (hfl:Pb P e k) (hv:Value.okWide P W .any base t v) (h:DataW.Trod enc P W 0 (fun _=>true) true t v d p) :
  ∃ rows:List (List Int),(∀ r ∈ rows,r.length=k∧∀ m ∈ r,inR m=true)∧∀ θ,Ak θ (fun _=>False) W (.p (.sl (rows.map fun r=>r.map iv))) v:=by
 obtain ⟨a0,len0,cap0,rfl⟩:=okWide_slice ht hv
 obtain ⟨n,hn⟩:=h
 obtain ⟨rows,h1,v',hv',hp⟩:=open_recs ht hk (fun _ _ _=>hfl _ _ _) hn (fun a len cap e=>by
  simp only [Value.cells,List.cons.injEq,and_true,Value.slice.injEq] at e
  obtain ⟨rfl,rfl,rfl⟩:=e
  simp only [Value.okWide,ht,Cell.okWide,Cell.ok,World.has] at hv
  exact hv.2.2.2.1)
 simp only [Value.cells,List.cons.injEq,and_true] at hv'
 subst hv'
 exact ⟨rows,h1,fun θ=>.p _ _ hp⟩
theorem open_lists {base t:Nat} {v:Value} {d:DataW H} {p:List MemPlace} {fs:Array Field} {ks:List (TypeId × Nat)} (ht:P.underlying t=some (.struct fs)) (hc:P.cellsOf t=ks.length) (hn:fs.toList.length=ks.length) (hty:P.cellTypes P.depth t=some (fs.toList.map (·.type)))
  (hf:∀ (i:Nat) (f:Field) (e k:Nat),fs.toList[i]?=some f→ks[i]?=some (e,k)→f.offset=i∧P.cellsOf f.type=1∧P.underlying f.type=some (.slice e)∧P.cellsOf e=k∧Pb P e k)
  (hv:Value.okWide P W .any base t v) (h:DataW.Trod enc P W 0 (fun _=>true) true t v d p) :
  ∃ R:List (List (List Int)),R.length=ks.length∧(∀ (i:Nat) (rows:List (List Int)) (e k:Nat),R[i]?=some rows→ks[i]?=some (e,k)→∀ r ∈ rows,r.length=k∧∀ m ∈ r,inR m=true)∧∀ θ,Ak θ (fun _=>False) W (.agg (R.map fun rows=>.p (.sl (rows.map fun r=>r.map iv)))) v:=by
 simp only [Value.okWide,ht] at hv
 obtain ⟨cs,rfl,_,ts,hts,_,hall⟩:=hv
 rw [hty] at hts
 cases hts
 obtain ⟨n,hn'⟩:=h
 obtain ⟨l⟩:=cs
 obtain ⟨xs,n',_,_,hl,hxs,hg⟩:=DataW.trod_struct ht hn'
 have hl:l.length=ks.length:=hl.trans hc
 have key:∀ i,i < ks.length→∃ rows:List (List Int),(∀ e k,ks[i]?=some (e,k)→∀ r ∈ rows,r.length=k∧∀ m ∈ r,inR m=true)∧∃ v,l[i]?=some v∧Ck (fun _=>False) W (.sl (rows.map fun r=>r.map iv)) v:=fun i hi=>by
  obtain ⟨f,hf1⟩:∃ f,fs.toList[i]?=some f:=⟨_,List.getElem?_eq_getElem (by omega)⟩
  obtain ⟨⟨e,k⟩,hk1⟩:∃ q,ks[i]?=some q:=⟨_,List.getElem?_eq_getElem hi⟩
  obtain ⟨o1,o2,o3,o4,o5⟩:=hf i f e k hf1 hk1
  have g:=hg i f (by simpa using hf1)
  have hix:i < xs.length:=by
   rw [hxs]; have:fs.size=fs.toList.length:=by simp
   omega
  rw [o1,o2,List.getElem?_eq_getElem hix] at g
  obtain ⟨v,hv,g2⟩:=Bam g (by show i < l.length; omega)
  have hv:l[i]?=some v:=hv
  obtain ⟨rows,r1,v',r2,r3⟩:=open_recs o3 o4 (fun _ _ _=>o5 _ _ _) g2 (fun b len cap e=>by
   obtain ⟨u,hu,hok⟩:=hall i v (by simpa using hv)
   rw [List.head_eq_of_cons_eq e] at hok
   have hil:i < fs.toList.length:=by omega
   have hu:u=f.type:=by
    have hm:i % (fs.toList.map (·.type)).length=i:=Nat.mod_eq_of_lt (by rw [List.length_map]; exact hil)
    rw [hm,List.getElem?_map,hf1] at hu; exact (Option.some.inj hu).symm
   subst hu
   simp only [o3,Cell.okWide,Cell.ok,World.has] at hok
   exact hok.2.2.2.1)
  have r2:=List.head_eq_of_cons_eq r2
  subst r2
  exact ⟨rows,fun e' k' he=>by rw [hk1] at he; cases he; exact r1,v,hv,r3⟩
 obtain ⟨F,hF⟩:=Go.Deep.choose_lt key
 refine ⟨(List.range ks.length).map F,by simp,fun i rows e k hr hk=>?_,fun θ=>.agg _ _ (by simp [hl]) (fun i hi=>?_) (fun i x hx=>?_)⟩
 ·simp only [List.getElem?_map,Option.map_eq_some_iff] at hr
  obtain ⟨i',h1,rfl⟩:=hr
  have hlt:i < ks.length:=(List.getElem?_eq_some_iff.1 hk).1
  have e:i'=i:=by rw [List.getElem?_range hlt] at h1; exact (Option.some.inj h1).symm
  subst e
  exact (hF i' hlt).1 _ _ hk
 ·have hi:i < ks.length:=by simpa using hi
  obtain ⟨_,v,hv,hp⟩:=hF i hi
  have hil:i < l.length:=by omega
  have e:=(List.getElem?_eq_some_iff.1 hv).2
  have:l.toArray.getD i undef=v:=by simp [hil,e]
  rw [this]; exact hp.oneCell
 ·simp only [List.getElem?_map,Option.map_eq_some_iff] at hx
  obtain ⟨rows,⟨i',h1,rfl⟩,rfl⟩:=hx
  have hlt:i < ks.length:=by
   have:=(List.getElem?_eq_some_iff.1 h1).1; simpa using this
  have e:i'=i:=by rw [List.getElem?_range hlt] at h1; exact (Option.some.inj h1).symm
  subst e
  obtain ⟨_,v,hv,hp⟩:=hF i' hlt
  have hil:i' < l.length:=by omega
  have e:=(List.getElem?_eq_some_iff.1 hv).2
  have:l.toArray.getD i' undef=v:=by simp [hil,e]
  rw [this]; exact .p _ _ hp
end
end AM
end
