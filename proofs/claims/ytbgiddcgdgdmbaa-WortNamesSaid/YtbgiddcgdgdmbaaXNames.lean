/- Lemmas for the proof: more of the program's functions, walked on the abstract machine. -/
import Derived.Test.YtbgiddcgdgdmbaaQ6
import Derived.Laws.Cover3
/- The abstract machine, part 40: an element of an array's value; functions as cells; a nil slice compared. -/
section
namespace AM
open Go Go.Proofs
section
variable {P:Program} {r:RB} {N:Nat} {s:St} {K:St→Prop} {dst:Option Nat} {ty:TypeId} {pos:String} {after:Array Edge} {g:Option (Nat × Bool)}
def fMk (k by8:Nat) (z:List PV) (d:Nat):AV→AV→Option Eff
 | .p (.val (.int .i64 n)),.p (.val (.int .i64 m))=>if n=m∧0≤n∧n≤4611686018427387904∧by8 * n≤281474976710656 then some (.new (.arr k (List.replicate n.toNat z)) (.own d n.toNat)) else none
 | _,_=>none
theorem EO_mk {t e:TypeId} {l c:Operand} {d k by8:Nat} {z:List Value} (hk:(Ab P t).k=.sl e) (h1:(Ab P e).sz=k) (h2:(Ab P e).bytes=by8) (h3:(Ab P e).zero=z) (h4:z.all Value.oneCell'=true) (h5:k=z.length) (h6:0 < k) (h7:(Ab P e).agg.isSome=true) :
  EO P r N ⟨some d,.makeSlice t l c,ty,pos,after,g⟩ s K=EOp r.b N (some d) s K (fMk k by8 (z.map .val) (r.b+d) (ev s.t l) (ev s.t c)):=by
 refine C6 rfl rfl ?_
 have e5:(k=z.length)=True:=eq_true h5
 have e6:(0 < k)=True:=eq_true h6
 simp only [eff,hk]
 cases ev s.t l with
 | p q=>cases q with
  | val v=>cases v with
   | int kd n=>cases kd <;> (cases ev s.t c with
    | p q'=>cases q' with
     | val v'=>cases v' with
      | int kd' m=>cases kd' <;> simp only [fMk,h1,h2,h3,h4,h7,e5,e6,and_true,Option.getD_some]
      | _=>rfl
     | _=>rfl
    | _=>rfl)
   | _=>rfl
  | _=>rfl
 | _=>rfl
end
section
variable {P:Program} {r:RB} {N B:Nat} {S:Nat→Prop} {θ:Nat→Loc} {M M2:Nat→Prop} {w:World} {st:St} {a:Act} {Q:AEx→St→Prop}
theorem viewF_rel1 (h:Ar N B S θ M w st a) {x y:AV} (ho:∀ n len o,x=.own n len→st.o n=some o→(θ n).nil=false→¬ M2 (θ n).blk) {v:Value} (hv:Al θ M w x v) (hy:Ah1 0 st.o x=some y):Al θ M2 w y v∧y.isP=true:=by
 unfold Ah1 at hy
 split at hy
 ·cases hy
  cases hv with
  | p _ _ h=>cases h with
   | val _ _=>exact ⟨.p _ _ .nil,rfl⟩
 ·cases hy
  cases hv with
  | p _ _ h=>exact ⟨.p _ _ (h.isVal rfl _ _),rfl⟩
 ·rename_i n len
  split at hy
  ·rename_i k es hn
   split at hy
   ·rename_i hc
    cases hy
    obtain ⟨hlen,_,hall⟩:=hc
    obtain ⟨hk,hob⟩:=h.ob n _ hn
    refine ⟨.p _ _ ?_,rfl⟩
    cases hv with
    | ownNil _ h0=>simpa using Cl.nil
    | own _ _ h0 hcap=>
     rcases hob with ⟨h1,_⟩ | ⟨_,hle,cur,e,hb,hs1,ho1,hx1⟩
     ·rw [h1] at h0; cases h0
     ·have hl:(es.take len).length=len:=by rw [List.length_take]; omega
      have:=Cl.sl (M:=M2) (w:=w) (es.take len) (θ n).blk 0 (θ n).cap k (fun i j=>cur.getD (i * k+j) undef) (fun i e hi=>by
       rw [List.getElem?_take] at hi
       split at hi
       ·exact hk i e hi
       ·cases hi) (by rw [hl]; exact hcap) (fun i e' j x hi hj=>by
       rw [List.getElem?_take] at hi
       split at hi
       ·refine ⟨ho n len _ rfl hn h0,?_⟩
        have hj':j < k:=by rw [← hk i e' hi]; exact (List.getElem?_eq_some_iff.1 hj).1
        have hi':=(List.getElem?_eq_some_iff.1 hi).1
        have hlt:i * k+j < cur.size:=by
         rw [hs1]
         have:(i+1) * k≤(θ n).cap * k:=Nat.mul_le_mul_right _ (by omega)
         rw [Nat.add_mul] at this; omega
        rw [Nat.zero_add]
        exact Cx hb (by simp [hlt])
       ·cases hi) (fun i e' j x hi hj=>by
       rw [List.getElem?_take] at hi
       split at hi
       ·have hv:=hx1 i e' j x hi hj
        refine hv.isVal ?_ _ _
        have h1:=List.all_eq_true.1 hall e' (List.mem_of_getElem? hi)
        exact List.all_eq_true.1 h1 x (List.mem_of_getElem? hj)
       ·cases hi)
      rw [hl] at this
      exact this
   ·cases hy
  ·cases hy
 ·cases hy
def viewH (n:Nat) (es:List (List PV)) (os:Nat→Option AO):AV→Option (Nat→AV)
 | .own m len=>if m=n then (if len=es.length then some fun c=>.own c len else none) else (Ah1 0 os (.own m len)).map fun y _=>y
 | x=>(Ah1 0 os x).map fun y _=>y
def viewHL (n:Nat) (es:List (List PV)) (os:Nat→Option AO):List AV→Option (Nat→List AV)
 | []=>some fun _=>[]
 | x :: r=>match viewH n es os x,viewHL n es os r with | some y,some ys=>some fun c=>y c :: ys c | _,_=>none
theorem viewHL_get {n:Nat} {es:List (List PV)} {os:Nat→Option AO}:∀ {l:List AV} {f:Nat→List AV},viewHL n es os l=some f→∀ c,(f c).length=l.length∧∀ (i:Nat) (z:AV),(f c)[i]?=some z→∃ x y,l[i]?=some x∧viewH n es os x=some y∧z=y c
 | [],f,h,c=>by simp only [viewHL,Option.some.injEq] at h; subst h; exact ⟨rfl,fun i y hy=>by simp at hy⟩
 | x :: r,f,h,c=>by
  simp only [viewHL] at h
  cases h1:viewH n es os x with
  | none=>simp [h1] at h
  | some y=>
   cases h2:viewHL n es os r with
   | none=>simp [h1,h2] at h
   | some ys=>
    simp only [h1,h2,Option.some.injEq] at h
    subst h
    obtain ⟨h3,h4⟩:=viewHL_get h2 c
    refine ⟨by simp [h3],fun i z hz=>?_⟩
    cases i with
    | zero=>simp at hz; exact ⟨x,y,by simp,h1,hz.symm⟩
    | succ i=>simpa using h4 i z (by simpa using hz)
def HCall (P:Program) (f:FuncId) (args:List AV) (k:Nat) (es:List (List PV)) (res:Nat→AV):Prop:=
 (∀ c m,(res c).clean m=false→m=c)∧∀ (θ:Nat→Loc) (M:Nat→Prop) (w:World) (vs:Array Value),(∀ b,M b→b < w.heap.size)→vs.size=args.length→(∀ (i:Nat) (x:AV),args[i]?=some x→Al θ M w x (vs.getD i undef)) →
  Calls P f vs w fun e w'=>∃ v l,e=.returned v∧A8 (fun b=>w.heap.size≤b) w w'∧(l.nil=false→w.heap.size≤l.blk∧l.blk < w'.heap.size)∧(∀ θ' M',L7 θ' M' w' l (.arr k es))∧∀ θ' c,θ' c=l→Al θ' (fun b=>b < w.heap.size∨(l.nil=false∧b=l.blk)) w' (res c) v
def RetHC (P:Program) (i:Nat) (ty:TypeId) (k:Nat) (es:List (List PV)) (res:Nat→AV):AEx→St→Prop
 | .exit _,_=>False
 | _,s=>∃ n off g cs xs m f,s.t i=.ptr n off∧(Ab P ty).agg=some g∧s.o n=some (.cells cs)∧Ai g (Ab P ty).sz (cs.drop off)=some (.agg xs)∧s.o m=some (.arr k es)∧(es.all fun e=>e.all PV.isVal)=true∧viewHL m es s.o xs=some f∧res=fun c=>.agg (f c)
theorem RetHC_ret {i:Nat} {ty:TypeId} {k:Nat} {es:List (List PV)} {res:Nat→AV} {s:St}:RetHC P i ty k es res .ret s=∃ n off g cs xs m f,s.t i=.ptr n off∧(Ab P ty).agg=some g∧s.o n=some (.cells cs)∧Ai g (Ab P ty).sz (cs.drop off)=some (.agg xs)∧s.o m=some (.arr k es)∧(es.all fun e=>e.all PV.isVal)=true∧viewHL m es s.o xs=some f∧res=fun c=>.agg (f c):=rfl
theorem nameless {x:AV} (hx:x.isP=true) {θ θ':Nat→Loc} {M:Nat→Prop} {w:World} {v:Value} (h:Al θ M w x v):Al θ' M w x v:=h.nameless θ' hx
theorem hcall_mk {v q:List Nat} {P:Program} {f:FuncId} {fn:Func} {body:Code} {args:List AV} {k:Nat} {es:List (List PV)} {res:Nat→AV} {N i:Nat} {ty:TypeId} (hf:P.funcs[f]?=some fn) (hb:fn.body=some body) (hN:fn.ntmps=N) (hi:fn.results.toList=[.cell i ty]) (hargs:args.all AV.isP=true) (hclean:∀ c m,(res c).clean m=false→m=c)
  (h:AWP P ⟨⟨none,fun _=>False⟩,0,v,q⟩ N body ⟨T (ixs 0 args),O []⟩ (RetHC P i ty k es res)):HCall P f args k es res:=by
 subst hN
 rw [← Wc] at h
 refine ⟨hclean,fun θ M w vs hM hsz hrel=>?_⟩
 refine calls_of_wp hf hb ((wpIn_wide (n:=0)).1 ?_)
 have hH:Ar 0 w.heap.size (fun _=>False) θ M w (Hp fun _=>none) a0:=
  ⟨Nat.zero_le _,fun _=>.undef _,(fun n o hn=>by cases hn),(fun n o hn=>by cases hn),(fun n m hn=>by cases hn),Nat.le_refl _,hM,⟨fun _=>AV.lives_undef _,(fun m o hm=>by cases hm)⟩⟩
 have h0:=hH.start (fn:=fn) hsz hrel (fun i x hx=>A5 _ (List.all_eq_true.1 hargs x (List.mem_of_getElem? hx)))
 refine wpIn_mono (h _ _ θ M w _ h0) ?_
 rintro e a' w' ⟨ae,st',rfl,hr,⟨θ',M',hs',hk,ht,hm⟩,hd⟩
 have hoth:L6 st' θ' (fun b=>b < w.heap.size):=Afs hs' (fun _ h=>h) (fun _ h=>h)
 have key:∀ n off g cs xs m f,st'.t i=.ptr n off→(Ab P ty).agg=some g→st'.o n=some (.cells cs)→Ai g (Ab P ty).sz (cs.drop off)=some (.agg xs)→st'.o m=some (.arr k es)→(es.all fun e=>e.all PV.isVal)=true→viewHL m es st'.o xs=some f→res=(fun c=>.agg (f c)) →
   ∃ v,(results fn a'.tmps).run P w'=.ok v w'∧∃ v' l,Ending.returned v=.returned v'∧A8 (fun b=>w.heap.size≤b) w w'∧(l.nil=false→w.heap.size≤l.blk∧l.blk < w'.heap.size)∧(∀ θ' M',L7 θ' M' w' l (.arr k es))∧∀ θ' c,θ' c=l→Al θ' (fun b=>b < w.heap.size∨(l.nil=false∧b=l.blk)) w' (res c) v':=by
  intro n off g cs xs m f k1 k2 k3 k4 k5 k6 k7 k8
  have hv:=G0 (hs'.tm i) k1
  have hc:=(M3 hs' k3).drop off
  rw [Nat.zero_add] at hc
  obtain ⟨v,hrun,hrel⟩:=hc.load k2 k4
  have hrr:(results fn a'.tmps).run P w'=.ok v w':=by
   have hus':(fn.results.mapM (Hb a'.tmps)).run P w'=.ok #[v] w':=by
    rw [Array.mapM_eq_mapM_toList,Sem.run_map,hi]
    simp [Hb,hv,asAddr,hrun]
   rw [L4]
   simp only [Sem.run_bind,hus',Result.andThen_ok,Sem.run_pure]
   rfl
  refine ⟨v,hrr,_,θ' m,rfl,hk.mono (fun b hb=>hb.elim id False.elim),fun hnil=>?_,fun θ2 M2=>?_,fun θ2 c hc2=>?_⟩
  ·obtain ⟨h1,h2⟩:=hs'.lv m _ k5 hnil
   exact ⟨h2.elim id False.elim,hs'.mlt _ h1⟩
  ·obtain ⟨hkk,hob⟩:=hs'.ob m _ k5
   refine ⟨hkk,hob.imp id (fun ⟨q1,q2,cur,e,q3,q4,q5,q6⟩=>⟨q1,q2,cur,e,q3,q4,q5,fun i e' j x hi hj=>?_⟩)⟩
   have h1:=List.all_eq_true.1 k6 e' (List.mem_of_getElem? hi)
   have h2:=List.all_eq_true.1 h1 x (List.mem_of_getElem? hj)
   exact (q6 i e' j x hi hj).isVal h2 _ _
  ·subst k8
   obtain ⟨hl,hg⟩:=viewHL_get k7 c
   cases hrel with
   | agg _ vs hs hone hr=>
    refine .agg (f c) vs (by rw [hl]; exact hs) (fun i hi=>hone i (by rw [← hl]; exact hi)) (fun i z hz=>?_)
    obtain ⟨x,y,h1,h2,rfl⟩:=hg i z hz
    have hx:=hr i x h1
    have hno:∀ n2 len o,x=.own n2 len→n2≠m→st'.o n2=some o→(θ' n2).nil=false→¬ (fun b=>b < w.heap.size∨((θ' m).nil=false∧b=(θ' m).blk)) (θ' n2).blk:=fun n2 len o _ hne ho hnil hM=>by
     rcases hM with hM | ⟨hM,e⟩
     ·exact hoth n2 o ho hnil hM
     ·exact hne (hs'.inj n2 m (by rw [ho]; rfl) (by rw [k5]; rfl) hnil hM e)
    have hpure:∀ y',Ah1 0 st'.o x=some y'→(∀ n2 len,x=.own n2 len→n2≠m)→Al θ2 (fun b=>b < w.heap.size∨((θ' m).nil=false∧b=(θ' m).blk)) w' y' (vs.getD i undef):=fun y' hy' hne=>by
     obtain ⟨h3,h4⟩:=viewF_rel1 (M2:=fun b=>b < w.heap.size∨((θ' m).nil=false∧b=(θ' m).blk)) hs' (fun n2 len o e ho hnil=>hno n2 len o e (hne n2 len e) ho hnil) hx hy'
     exact nameless h4 h3
    unfold viewH at h2
    split at h2
    ·rename_i m2 len
     split at h2
     ·rename_i e
      subst e
      split at h2
      ·cases h2
       generalize vs.getD i undef=v at hx
       cases hx with
       | own _ _ h0 h3=>
        rw [← hc2]
        exact .own c len (by rw [hc2]; exact h0) (by rw [hc2]; exact h3)
       | ownNil _ h0=>exact .ownNil c (by rw [hc2]; exact h0)
      ·cases h2
     ·rename_i e
      simp only [Option.map_eq_some_iff] at h2
      obtain ⟨y',h2,rfl⟩:=h2
      exact hpure y' h2 (fun n2 len2 e2=>by cases e2; exact e)
    ·rename_i hno2
     simp only [Option.map_eq_some_iff] at h2
     obtain ⟨y',h2,rfl⟩:=h2
     exact hpure y' h2 (fun n2 len2 e2=>(hno2 n2 len2 e2).elim)
 cases ae with
 | normal=>
  obtain ⟨n,off,g,cs,xs,m,f,k1,k2,k3,k4,k5,k6,k7,k8⟩:=hr
  exact ⟨hd,key n off g cs xs m f k1 k2 k3 k4 k5 k6 k7 k8⟩
 | ret=>
  obtain ⟨n,off,g,cs,xs,m,f,k1,k2,k3,k4,k5,k6,k7,k8⟩:=hr
  exact ⟨hd,key n off g cs xs m f k1 k2 k3 k4 k5 k6 k7 k8⟩
 | exit j=>exact hr.elim
theorem astep_hcall {K:St→Prop} {o:Oper} {c:Call} {f:FuncId} (ho:o.op=.call c) {d:Nat} (hdst:o.dst=some d) (hd:d < N) (hc:c.callee=.value (.func f)) (hf:A7 P f=true) {args:List AV} (hargs:Dh st.o (c.args.toList.map (ev st.t))=some args) {k:Nat} {es:List (List PV)} {res:Nat→AV} (hcall:HCall P f args k es res)
  (hfree:st.o (r.b+d)=none) (h:K ((st.setO (r.b+d) (.arr k es)).put o.dst (res (r.b+d)))):B5 P r N o st K:=by
 intro B S θ M w a Q hsr
 refine ⟨fun _ _=>trivial,?_⟩
 rw [Oper.semAt_eq _ _ _ (by rw [ho]; intro c h; cases h),Vc ho hc hf]
 refine ⟨fun h=>by simp [Wd] at h,Dx ?_⟩
 obtain ⟨hl,hg⟩:=Lp hargs
 have hval:∀ (i:Nat) (z:Operand),c.args.toList[i]?=some z→(c.args.map a.eval).getD i undef=a.eval z:=fun i z hz=>by
  have:c.args[i]?=some z:=by simpa using hz
  simp [Array.getD_eq_getD_getElem?,this]
 refine Calls.mono (hcall.2 θ (Nu st θ M) w (c.args.map a.eval) (fun b hb=>hsr.mlt b hb.1) (by rw [hl]; simp) (fun i y hy=>?_)) ?_
 ·obtain ⟨x,hx,hv⟩:=hg i y hy
  simp only [List.getElem?_map,Option.map_eq_some_iff] at hx
  obtain ⟨z,hz,rfl⟩:=hx
  rw [hval i z hz]
  exact (Ka hsr (M2:=Nu st θ M) (fun b hb=>hb.1) (fun n o hn hnil hb=>hb.2 ⟨n,o,hn,hnil,rfl⟩) (Ao hsr z) hv).1
 ·rintro e w' ⟨v,l,rfl,hk,hblk,hob,hres⟩
  have hnew:=hsr.new (d:=r.b+d) hfree (w':=w') (l:=l) (o:=.arr k es) hk.size (fun b hb=>hk.same b hb (by omega)) hblk (hob _ _) (AO.lives_arr _ _ _)
  have hvr:Al (Dc θ (r.b+d) l) (fun b=>M b∨(l.nil=false∧b=l.blk)) w' (res (r.b+d)) v:=by
   refine (hres (Dc θ (r.b+d) l) (r.b+d) (Fv _ _ _)).mono (fun _ _ _=>rfl) (fun b _ hb=>hb.imp (hsr.mlt b) id)
  refine ⟨_,h,⟨_,_,hnew.put (d:=o.dst) (fun j hj=>by rw [hdst] at hj; cases hj; exact hd) hvr (fun n hn=>?_),⟨hk.size,fun b hb hn=>hk.same b hb (by omega),hk.os,hk.tape,hk.output⟩,fun n hn _=>Ay (by omega),fun b _ hb _=>.inl hb⟩,by cases o.dst <;> rfl⟩
  have hn:=hcall.1 _ _ hn
  subst hn
  show (upd st.o (r.b+d) (some (.arr k es)) (r.b+d)).isSome=true
  simp
theorem al_hcall {all rest:List Oper} {K:St→Prop} {f:FuncId} {ars:Array Operand} {ts:Array TypeId} {ty:TypeId} {pos:String} {after:Array Edge} {d k:Nat} {es:List (List PV)} {res:Nat→AV} {args:List AV} (hcall:HCall P f args k es res) (hd:d < N) (hf:A7 P f=true) (hargs:Dh st.o (ars.toList.map (ev st.t))=some args) (hfree:st.o (r.b+d)=none)
  (h:AL P r N all rest ((st.setO (r.b+d) (.arr k es)).put (some d) (res (r.b+d))) K):AL P r N all (⟨some d,.call ⟨.value (.func f),ars,ts⟩,ty,pos,after,none⟩ :: rest) st K:=
 AL.step (astep_hcall (o:=⟨some d,.call ⟨.value (.func f),ars,ts⟩,ty,pos,after,none⟩) rfl rfl hd rfl hf hargs hcall hfree h)
end
theorem Bo.of_nil {P:Program} {f:FuncId} {args:List AV} {res:AV} (i:Nat) (hi:args[i]?=some (.p (.val (.slice none 0 0)))) (h:Bo P f (args.set i (.p (.sl []))) res):Bo P f args res:=by
 refine ⟨h.1,fun θ M w vs hM hsz hrel=>h.2 θ M w vs hM (by simpa using hsz) fun j x hj=>?_⟩
 rw [List.getElem?_set] at hj
 split at hj
 ·rename_i hij
  split at hj
  ·cases hj
   have:=hrel i _ hi
   rw [Rf this] at this
   rw [← hij]
   have e:=Rf (hrel i _ hi)
   rw [e]
   exact .p _ _ .nil
  ·cases hj
 ·exact hrel j x hj
end AM
end
/- Whether steps are a plan. -/
section
namespace AM.Wort
open Go AM Go.Proofs
def planOk (n:Nat) (s:Stp):Bool:=F5 n s&&(!decide (s.kind=2)&&(!decide (1 < Fc s.g)&&!decide (s.g.lo < 1)))
def planF (vs:List Ves) (g k:Int):List Liq→List Stp→Bool
 | v,[]=>V7 vs.length v g k
 | v,s :: ss=>planOk vs.length s&&((doS vs v s s.g.lo).2&&planF vs g k (doS vs v s s.g.lo).1 ss)
def proveS (b:Er) (l:List Stp) (g k most:Int):Bool:=decide (B6 b=0)&&(decide ((l.length:Int)≤most)&&(Mo g k&&(Ke b.vs&&((C2 b.vs).2&&planF b.vs g k (C2 b.vs).1 l))))
theorem plan_step {vs:List Ves} {g k:Int} {v:List Liq} {l:List Stp} {i:Nat} {R:Bool} (hi:i < l.length) (h1:planOk vs.length (l.getD i default)=true) (h2:(doS vs v (l.getD i default) (l.getD i default).g.lo).2=true) (h:planF vs g k v (l.drop i)=R):planF vs g k (doS vs v (l.getD i default) (l.getD i default).g.lo).1 (l.drop (i+1))=R:=by
 have e:l.drop i=l.getD i default :: l.drop (i+1):=by rw [List.drop_eq_getElem_cons hi]; simp [List.getD,hi]
 rw [e] at h; unfold planF at h; rw [h1,h2] at h; simpa using h
theorem plan_no {vs:List Ves} {g k:Int} {v:List Liq} {l:List Stp} {i:Nat} {R:Bool} (hi:i < l.length) (h1:planOk vs.length (l.getD i default)=false∨(doS vs v (l.getD i default) (l.getD i default).g.lo).2=false) (h:planF vs g k v (l.drop i)=R):R=false:=by
 have e:l.drop i=l.getD i default :: l.drop (i+1):=by rw [List.drop_eq_getElem_cons hi]; simp [List.getD,hi]
 rw [e] at h; unfold planF at h
 rcases h1 with h1 | h1
 ·rw [h1,Bool.false_and] at h; exact h.symm
 ·rw [h1,Bool.false_and,Bool.and_false] at h; exact h.symm
theorem plan_end {vs:List Ves} {g k:Int} {v:List Liq} {l:List Stp} {i:Nat} {R:Bool} (hi:l.length≤i) (h:planF vs g k v (l.drop i)=R):R=V7 vs.length v g k:=by
 rw [List.drop_of_length_le hi] at h; exact h.symm
theorem planOk_parts {n:Nat} {s:Stp} (h:planOk n s=true):F5 n s=true∧¬ s.kind=2∧¬ 1 < Fc s.g∧¬ s.g.lo < 1:=by
 simpa [planOk,Bool.and_eq_true] using h
theorem prove_no {b:Er} {l:List Stp} {g k most:Int} (h:¬ B6 b=0∨¬ (l.length:Int)≤most∨Mo g k=false∨Ke b.vs=false∨(C2 b.vs).2=false):proveS b l g k most=false:=by
 cases hp:proveS b l g k most with
 | false=>rfl
 | true=>
  simp only [proveS,Bool.and_eq_true,decide_eq_true_eq] at hp
  obtain ⟨h1,h2,h3,h4,h5,_⟩:=hp
  rcases h with h | h | h | h | h
  ·exact absurd h1 h
  ·exact absurd h2 h
  ·rw [h3] at h; cases h
  ·rw [h4] at h; cases h
  ·rw [h5] at h; cases h
theorem prove_eq {b:Er} {l:List Stp} {g k most:Int} {R:Bool} (h1:B6 b=0) (h2:(l.length:Int)≤most) (h3:Mo g k=true) (h4:Ke b.vs=true) (h5:(C2 b.vs).2=true) (h:planF b.vs g k (C2 b.vs).1 l=R):proveS b l g k most=R:=by
 unfold proveS; rw [decide_eq_true h1,decide_eq_true h2,h3,h4,h5,h]; simp
end AM.Wort
end
/- The program: ProvePlan. -/
section
namespace AM.Try
open Go AM AM.Wort Go.Proofs
open Nat renaming reduceLT→sA,reduceAdd→sB,reduceMul→sC,reduceSub→sD,reduceLeDiff→sE,reduceEqDiff→sF,reduceBEq→sG
open Int renaming reduceAdd→sH,reduceSub→sI,reduceMul→sJ,reduceLT→sK,reduceLE→sL,reduceNeg→sM,reduceToNat→sN,reduceEq→sO
set_option maxRecDepth 100000
set_option maxHeartbeats 16000000
theorem ns_of {x:Bool} (h:(!x)=false):x=true:=by simpa using h
theorem c_prove (b:Er) (l:List Stp) (g k most:Int) (hl:b.vs.length < 1000000) (hl2:b.ss.length < 1000000) (hl3:l.length < 1000000) (hin:∀ s ∈ l,inR s.kind=true∧inR s.frm=true∧inR s.to=true∧inR s.g.lo=true∧inR s.g.hi=true):Bo Try.prog 37 [avB b,.p (slS l),i64 g,i64 k,i64 most] (bl (proveS b l g k most)):=by
  refine Bg (v:=[61,84,99,87]) (q:=[]) (N:=92) (rs:=[.tmp 10]) Try.func37 rfl rfl rfl rfl rfl ?_
  have hfx:=Bbu b.vs
  have hw4:(J4 b.vs).length=4:=by unfold J4; split; exact R7; rfl
  refine Aa fun K1 hK1=>?_
  refine Ac ?_
  simp (disch:=(first | assumption | omega)) only [amL,sA,sB,↓reduceIte]
  refine hK1 _ ?_
  refine Aa fun K2 hK2=>?_
  refine Aa fun K3 hK3=>?_
  refine Ac ?_
  simp (disch:=(first | assumption | omega)) only [amL,amT,sA,sB,sF,sG,↓reduceIte]
  repeat' first | (refine Dp (fun h=>?_) (fun h=>?_) <;> simp (disch:=(first | assumption | omega)) only [h,amL,amT,sA,sF,sG,↓reduceIte,reduceCtorEq]) | (refine B0 (fun h=>?_) (fun h=>?_) <;> simp (disch:=(first | assumption | omega)) only [h,hfx,Afa,Br,Az,Y7,Kb,ne_eq,amL,amT,sA,sB,sC,sD,sE,sF,sG,sH,sI,sJ,sK,sL,sM,sN,sO,↓reduceIte,reduceCtorEq]) | (refine Aq (by kernel_rfl) rfl (Ahw b hl hl2) (by first | exact .inl rfl | exact .inr (.inl rfl)) ?_ ; simp (disch:=(first | assumption | omega)) only [ne_eq,amL,amT,sA,↓reduceIte]) | (refine Aq (by kernel_rfl) rfl (c_wort g k) (by first | exact .inl rfl | exact .inr (.inl rfl)) ?_ ; simp (disch:=(first | assumption | omega)) only [amL,sA,sF,↓reduceIte])
  all_goals
   skip
   refine hK3 _ ?_
   refine Aj rfl (fun h=>?_) (fun h=>?_)
   ·first
    | exact Bool.noConfusion h
    |skip
     try simp only [Bool.not_eq_true'] at h
     refine Aa fun K4 hK4=>?_
     refine Ac ?_
     simp (disch:=(first | assumption | omega)) only [amL,sA]
     refine hK4 _ ?_
     refine Ah ?_
     try simp (disch:=(first | assumption | omega)) only [amL,↓reduceIte]
     all_goals first | exact (congrArg bl (plan_no (by omega) (.inr (by assumption)) hr)).symm | exact (congrArg bl (plan_no (by omega) (.inl (by first | (simp_all [planOk]; done) | fail)) hr)).symm | (rw [prove_no (by first | exact .inl (by assumption) | exact .inr (.inl (by omega)) | exact .inr (.inr (.inl (by assumption))) | exact .inr (.inr (.inr (.inl (by assumption)))) | (simp_all; done))]; done) | (rw [← hr,plan_end (by omega) rfl]; done) | trace_state
   ·first
    | exact Bool.noConfusion h
    |skip
     try simp only [Bool.not_eq_false'] at h
     refine Ak ?_
     refine hK2 _ ?_
     refine Aa fun K5 hK5=>?_
     refine Ac ?_
     have hf0:B6 b=0:=by omega
     have hval:=Acd hf0
     simp (disch:=(first | assumption | omega)) only [amL,amT,sA,sB,sF,sG,↓reduceIte]
     refine A1 [(1,.p (slS l)),(2,i64 g),(3,i64 k),(5,.ptr 5 0),(10,bl false)] (by decide) (Ds (b:=b) (bd:=92)) (Lg rfl) (by decide) (fun res os2 hR hcl2 hlv2=>?_)
     obtain ⟨rfl,rfl⟩:=hR
     simp (disch:=(first | assumption | omega)) only [amL,sA,sB,sF,↓reduceIte,reduceCtorEq]
     refine hK5 _ ?_
     refine Aa fun K6 hK6=>?_
     refine Ac ?_
     simp (disch:=(first | assumption | omega)) only [amL,sA,sG,↓reduceIte]
     refine Cd (bd:=140) (by decide) (Ar9 (ss:=b.ss) (m:=96) ⟨by simp (disch:=(first | assumption | omega)) only [amL,↓reduceIte],by simp (disch:=(first | assumption | omega)) only [amL,sF,↓reduceIte]⟩ hval.nv hval.v) (fun q hq=>by first | exact Lg rfl q (by omega) | (simp (disch:=omega) only [Ad]; exact Lg rfl q (by omega))) (by decide) (by rw [hfx]; exact Wg _ _ _) ?_
     simp (disch:=(first | assumption | omega)) only [hfx,Afa,Az,amL,amT,sA,sB,sF,↓reduceIte]
     refine hK6 _ ?_
     refine Aa fun K7 hK7=>?_
     refine Aa fun K8 hK8=>?_
     refine Ac ?_
     simp (disch:=(first | assumption | omega)) only [amL,sA,sF,↓reduceIte]
     repeat' first | (refine Dp (fun h=>?_) (fun h=>?_) <;> simp (disch:=(first | assumption | omega)) only [h,hfx,Afa,Br,Az,Y7,Kb,ne_eq,amL,amT,sA,sB,sC,sD,sE,sF,sG,sH,sI,sJ,sK,sL,sM,sN,sO,↓reduceIte,reduceCtorEq]) | (refine B0 (fun h=>?_) (fun h=>?_) <;> simp (disch:=(first | assumption | omega)) only [h,amL,sA,sF,↓reduceIte])
     all_goals
      skip
      refine hK8 _ ?_
      refine Aj rfl (fun h=>?_) (fun h=>?_)
      ·first
       | exact Bool.noConfusion h
       |skip
        try simp only [Bool.not_eq_true'] at h
        refine Aa fun K9 hK9=>?_
        refine Ac ?_
        simp (disch:=(first | assumption | omega)) only [amL,sA]
        refine hK9 _ ?_
        refine Ah ?_
        try simp (disch:=(first | assumption | omega)) only [amL,↓reduceIte]
        all_goals first | exact (congrArg bl (plan_no (by omega) (.inr (by assumption)) hr)).symm | exact (congrArg bl (plan_no (by omega) (.inl (by first | (simp_all [planOk]; done) | fail)) hr)).symm | (rw [prove_no (by first | exact .inl (by assumption) | exact .inr (.inl (by omega)) | exact .inr (.inr (.inl (by assumption))) | exact .inr (.inr (.inr (.inl (by assumption)))) | (simp_all; done))]; done) | (rw [← hr,plan_end (by omega) rfl]; done) | trace_state
      ·first
       | exact Bool.noConfusion h
       |skip
        try simp only [Bool.and_eq_true,Bool.not_eq_false'] at h
        refine Ak ?_
        refine hK7 _ ?_
        refine Aa fun K10 hK10=>?_
        refine Aa fun K11 hK11=>?_
        refine Ac ?_
        simp (disch:=(first | assumption | omega)) only [amL,amT,sA,sF,↓reduceIte]
        refine hK11 _ ?_
        refine Am ?_
        have h3:Mo g k=true:=by first | assumption | (simp_all; done)
        have h4:Ke b.vs=true:=by first | assumption | (simp_all; done)
        have h5:(C2 b.vs).2=true:=by first | assumption | (simp_all; done)
        have hfw:J4 b.vs=(C2 b.vs).1:=by unfold J4; rw [if_pos h4]
        have pl0:planF b.vs g k (J4 b.vs) (l.drop 0)=proveS b l g k most:=(prove_eq hf0 (by omega) h3 h4 h5 (by rw [hfw]; rfl)).symm
        refine Bb (α:=Nat × List Liq) (fun x=>⟨T [(1,.p (slS l)),(2,i64 g),(3,i64 k),(5,.ptr 5 0),(10,bl false),(11,.ptr 98 0),(12,.ptr 12 0),(47,.p (slS l)),(48,i64 l.length),(49,i64 (x.1:Int))],O [(5,.cells (cB b)),(12,.cells (cW x.2)),(96,.obj (Gh 14 (Sl b.vs))),(98,.cells [.p (slV b.vs),.p (slS b.ss),.mp 96])]⟩) (fun x=>l.length - x.1) (fun x=>x.1≤l.length∧OkV x.2∧planF b.vs g k x.2 (l.drop x.1)=proveS b l g k most) (0,J4 b.vs) ?_ ?_ (fun x hx12 K12 hK12=>?_)
        · exact ⟨Nat.zero_le _,Ar8 hval.nv hval.v,pl0⟩
        · refine C8 ?_ ?_ ?_ ?_ <;> (try simp (disch:=(first | assumption | omega)) only [amL,sF,sG,↓reduceIte]); all_goals first | rfl | exact Alo _ | trace_state
        obtain ⟨i,v⟩:=x; dsimp only at hx12 ⊢; obtain ⟨hi,hov,hr⟩:=hx12; have hv4:v.length=4:=hov.len
        refine Aa fun K13 hK13=>?_
        refine Ac ?_
        simp (disch:=(first | assumption | omega)) only [amL,amT,sA,sF,↓reduceIte]
        refine hK13 _ ?_
        refine Aa fun K14 hK14=>?_
        refine Aj rfl (fun h=>?_) (fun h=>?_)
        ·first
         | exact Bool.noConfusion h
         |skip
          try simp only [decide_eq_true_eq] at h
          refine Ak ?_
          refine hK14 _ ?_
          refine Aa fun K15 hK15=>?_
          refine Am ?_
          refine Aa fun K16 hK16=>?_
          refine Ac ?_
          simp (disch:=(first | assumption | omega)) only [Y7,amL,amT,sA,sB,sF,↓reduceIte]
          refine hK16 _ ?_
          refine Aa fun K17 hK17=>?_
          refine Aa fun K18 hK18=>?_
          refine Ac ?_
          simp (disch:=(first | assumption | omega)) only [amL,amT,sA,sB,sF,sG,↓reduceIte]
          repeat' first | (refine Dp (fun h=>?_) (fun h=>?_) <;> simp (disch:=(first | assumption | omega)) only [h,amL,amT,sA,sB,sF,sG,↓reduceIte,reduceCtorEq]) | (refine B0 (fun h=>?_) (fun h=>?_) <;> simp (disch:=(first | assumption | omega)) only [h,amL,amT,sA,sF,↓reduceIte,reduceCtorEq]) | (refine Aq (by kernel_rfl) rfl (Baz b (l.getD i default) hl) (by first | exact .inl rfl | exact .inr (.inl rfl)) ?_ ; simp (disch:=(first | assumption | omega)) only [amL,sA,↓reduceIte]) | (refine Aq (by kernel_rfl) rfl (Af7 (l.getD i default).g (by have:=C9 (Fz (ns_of (by assumption:(!F5 (b.vs.length:Int) (l.getD i default))=false))).2.2.2.2; omega) (by have:=C9 (Fz (ns_of (by assumption:(!F5 (b.vs.length:Int) (l.getD i default))=false))).2.2.2.2; omega)) (by first | exact .inl rfl | exact .inr (.inl rfl)) ?_ ; simp (disch:=(first | assumption | omega)) only [amL,amT,sA,sF,↓reduceIte])
          all_goals
           skip
           refine hK18 _ ?_
           refine Aj rfl (fun h=>?_) (fun h=>?_)
           ·first
            | exact Bool.noConfusion h
            |skip
             try simp only [decide_eq_true_eq] at h
             refine Aa fun K19 hK19=>?_
             refine Ac ?_
             simp (disch:=(first | assumption | omega)) only [amL,sA]
             refine hK19 _ ?_
             refine Ah ?_
             try simp (disch:=(first | assumption | omega)) only [amL,↓reduceIte]
             all_goals first | exact (congrArg bl (plan_no (by omega) (.inr (by assumption)) hr)).symm | exact (congrArg bl (plan_no (by omega) (.inl (by first | (simp_all [planOk]; done) | fail)) hr)).symm | (rw [prove_no (by first | exact .inl (by assumption) | exact .inr (.inl (by omega)) | exact .inr (.inr (.inl (by assumption))) | exact .inr (.inr (.inr (.inl (by assumption)))) | (simp_all; done))]; done) | (rw [← hr,plan_end (by omega) rfl]; done) | trace_state
           ·first
            | exact Bool.noConfusion h
            |skip
             try simp only [decide_eq_false_iff_not] at h
             refine Ak ?_
             refine hK17 _ ?_
             refine Aa fun K20 hK20=>?_
             refine Ac ?_
             simp (disch:=(first | assumption | omega)) only [amL,sA]
             refine hK20 _ ?_
             refine Aa fun K21 hK21=>?_
             refine Ac ?_
             simp (disch:=(first | assumption | omega)) only [Br,Az,amL,amT,sA,sB,sF,sG,↓reduceIte,reduceCtorEq]
             obtain ⟨hst,hk2,hsz,hlo⟩:=planOk_parts (n:=b.vs.length) (s:=l.getD i default) (by first | (simp_all [planOk]; done) | fail)
             obtain ⟨q1,q2,q3,q4,q5⟩:=Fz hst
             have y5:=C9 q5
             have hnv:=hval.nv
             have hd4:(doS b.vs v (l.getD i default) (l.getD i default).g.lo).1.length=4:=by rw [Aa7]; exact hv4
             have hm:=hin _ (AM.Wort.D0 default (show i < l.length by omega))
             refine Cd (bd:=140) (by decide) (Bg1 (ss:=b.ss) (m:=96) (s:=l.getD i default) ⟨by simp (disch:=(first | assumption | omega)) only [amL,sF,↓reduceIte],by simp (disch:=(first | assumption | omega)) only [amL,sF,↓reduceIte]⟩ hov.len hov.small hnv q1 ⟨q2.1,by omega⟩ ⟨q3.1,by omega⟩ ⟨by omega,by omega⟩ (Bep hm hm.2.2.2.1 hov.small)) (fun q hq=>by first | exact Lg rfl q (by omega) | (simp (disch:=omega) only [Ad]; exact Lg rfl q (by omega))) (by decide) (D1 _ _) ?_
             simp (disch:=(first | assumption | omega)) only [Az,amL,amT,sA,sF,↓reduceIte]
             refine hK21 _ ?_
             refine Aa fun K22 hK22=>?_
             refine Ac ?_
             simp (disch:=(first | assumption | omega)) only [amL,sA,↓reduceIte]
             refine hK22 _ ?_
             refine Aj rfl (fun h=>?_) (fun h=>?_)
             ·first
              | exact Bool.noConfusion h
              |skip
               try simp only [Bool.not_eq_true'] at h
               refine Aa fun K23 hK23=>?_
               refine Ac ?_
               simp (disch:=(first | assumption | omega)) only [amL,sA]
               refine hK23 _ ?_
               refine Ah ?_
               try simp (disch:=(first | assumption | omega)) only [amL,↓reduceIte]
               all_goals first | exact (congrArg bl (plan_no (by omega) (.inr (by assumption)) hr)).symm | exact (congrArg bl (plan_no (by omega) (.inl (by first | (simp_all [planOk]; done) | fail)) hr)).symm | (rw [prove_no (by first | exact .inl (by assumption) | exact .inr (.inl (by omega)) | exact .inr (.inr (.inl (by assumption))) | exact .inr (.inr (.inr (.inl (by assumption)))) | (simp_all; done))]; done) | (rw [← hr,plan_end (by omega) rfl]; done) | trace_state
             ·first
              | exact Bool.noConfusion h
              |skip
               try simp only [Bool.not_eq_false'] at h
               refine Ak ?_
               refine hK15 _ ?_
               refine Ac ?_
               simp (disch:=(first | assumption | omega)) only [amL,amT,sA,sF,↓reduceIte]
               refine hK12 (i+1,(doS b.vs v (l.getD i default) (l.getD i default).g.lo).1) _ ?_ ?_ (C8 ?_ ?_ ?_ ?_)
               all_goals (try simp (disch:=(first | assumption | omega)) only [amL,sF,sG,↓reduceIte])
               all_goals first | omega | exact Alo _ | exact congrArg AO.cells (Ca (by omega)) | exact ⟨by omega,Ao5 hov hnv hval.v hst (by omega) (by assumption),plan_step (by omega) (by simp only [planOk,hst,hk2,hsz,hlo,decide_false,Bool.not_false,Bool.and_self]) (by assumption) hr⟩ | trace_state
        ·first
         | exact Bool.noConfusion h
         |skip
          try simp only [decide_eq_false_iff_not] at h
          refine Bn ?_
          refine hK10 _ ?_
          refine Aa fun K24 hK24=>?_
          refine Ac ?_
          simp (disch:=(first | assumption | omega)) only [Br,Az,amL,amT,sA,sF,sG,↓reduceIte]
          refine Cd (bd:=140) (by decide) (Aq0 (vs:=b.vs) (ss:=b.ss) (v:=v) (g:=g) (k:=k) (m:=96) (by simp (disch:=(first | assumption | omega)) only [amL,sF,↓reduceIte]) hval.nv hov.small hov.len) (fun q hq=>by first | exact Lg rfl q (by omega) | (simp (disch:=omega) only [Ad]; exact Lg rfl q (by omega))) (by decide) rfl ?_
          simp (disch:=(first | assumption | omega)) only [amL,sA,↓reduceIte]
          refine hK24 _ ?_
          refine Ah ?_
          try simp (disch:=(first | assumption | omega)) only [amL,↓reduceIte]
          all_goals first | exact (congrArg bl (plan_no (by omega) (.inr (by assumption)) hr)).symm | exact (congrArg bl (plan_no (by omega) (.inl (by first | (simp_all [planOk]; done) | fail)) hr)).symm | (rw [prove_no (by first | exact .inl (by assumption) | exact .inr (.inl (by omega)) | exact .inr (.inr (.inl (by assumption))) | exact .inr (.inr (.inr (.inl (by assumption)))) | (simp_all; done))]; done) | (rw [← hr,plan_end (by omega) rfl]; done) | trace_state
theorem s_few1:Bo Try.prog 34 [avB (two 10),i64 12,i64 50] (.tup [.p (.sl [[iv 1,iv 0,iv 0,iv 2,iv 2]]),i64 0]):=by
 have h:=Anx (two 10) 12 50 (by decide) (by decide)
 have e:Ho (two 10) 12 50=.tup [.p (.sl [[iv 1,iv 0,iv 0,iv 2,iv 2]]),i64 0]:=by kernel_rfl
 rw [e] at h; exact h
theorem s_few2:Bo Try.prog 34 [avB (two 10),i64 15,i64 50] (.tup [.p (.sl [[iv 0,iv 1,iv 0,iv 5,iv 5]]),i64 0]):=by
 have h:=Anx (two 10) 15 50 (by decide) (by decide)
 have e:Ho (two 10) 15 50=.tup [.p (.sl [[iv 0,iv 1,iv 0,iv 5,iv 5]]),i64 0]:=by kernel_rfl
 rw [e] at h; exact h
theorem s_few3:Bo Try.prog 34 [avB (two 10),i64 5,i64 30] (.tup [.p (.sl []),i64 0]):=by
 have h:=Anx (two 10) 5 30 (by decide) (by decide)
 have e:Ho (two 10) 5 30=.tup [.p (.sl []),i64 0]:=by kernel_rfl
 rw [e] at h; exact h
theorem s_few4:Bo Try.prog 34 [avB (two 11),i64 12,i64 50] (.tup [C3,i64 2]):=by
 have h:=Anx (two 11) 12 50 (by decide) (by decide)
 have e:Ho (two 11) 12 50=.tup [C3,i64 2]:=by kernel_rfl
 rw [e] at h; exact h
theorem s_few5:Bo Try.prog 34 [avB (two 10),i64 60,i64 60] (.tup [C3,i64 10]):=by
 have h:=Anx (two 10) 60 60 (by decide) (by decide)
 have e:Ho (two 10) 60 60=.tup [C3,i64 10]:=by kernel_rfl
 rw [e] at h; exact h
theorem s_few6:Bo Try.prog 34 [avB (two 10),i64 0,i64 50] (.tup [C3,i64 2]):=by
 have h:=Anx (two 10) 0 50 (by decide) (by decide)
 have e:Ho (two 10) 0 50=.tup [C3,i64 2]:=by kernel_rfl
 rw [e] at h; exact h
theorem s_leave1:Bo Try.prog 36 [avB (two 11),C3] (.tup [C3,i64 0]):=Hy Ru 10000 (by kernel_rfl)
theorem s_leave2:Bo Try.prog 36 [avB (two 11),.p (.sl [[iv 2,iv 0,iv 0,iv 0,iv 0]])] (.tup [C3,i64 2]):=Hy Ru 10000 (by kernel_rfl)
theorem s_leave3:Bo Try.prog 36 [avB (two 11),.p (.sl (List.replicate 5 [iv 0,iv 0,iv 0,iv 0,iv 0]))] (.tup [C3,i64 3]):=Hy Ru 10000 (by kernel_rfl)
def full:Er:=⟨[⟨⟨10,11⟩,⟨60,60⟩,20⟩,⟨⟨5,5⟩,⟨30,30⟩,8⟩],[⟨0,0,1,⟨4,4⟩⟩,⟨2,1,1,⟨1,2⟩⟩,⟨1,0,0,⟨2,2⟩⟩]⟩
def wide:Er:=⟨[⟨⟨10,13⟩,⟨60,60⟩,20⟩,⟨⟨5,5⟩,⟨30,30⟩,12⟩],[⟨0,0,1,⟨4,4⟩⟩,⟨2,1,1,⟨1,2⟩⟩,⟨1,0,0,⟨2,2⟩⟩]⟩
def self:Er:=⟨[⟨⟨10,11⟩,⟨60,60⟩,20⟩,⟨⟨5,5⟩,⟨30,30⟩,12⟩],[⟨0,0,0,⟨4,4⟩⟩,⟨2,1,1,⟨1,2⟩⟩,⟨1,0,0,⟨2,2⟩⟩]⟩
def kindB:Er:=⟨[⟨⟨10,11⟩,⟨60,60⟩,20⟩,⟨⟨5,5⟩,⟨30,30⟩,12⟩],[⟨3,0,1,⟨4,4⟩⟩,⟨2,1,1,⟨1,2⟩⟩,⟨1,0,0,⟨2,2⟩⟩]⟩
def roomB:Er:=⟨[⟨⟨10,11⟩,⟨60,60⟩,61⟩,⟨⟨5,5⟩,⟨30,30⟩,12⟩],[⟨0,0,1,⟨4,4⟩⟩,⟨2,1,1,⟨1,2⟩⟩,⟨1,0,0,⟨2,2⟩⟩]⟩
def manyB:Er:=⟨List.replicate 5 ⟨⟨0,0⟩,⟨0,0⟩,0⟩,[⟨0,0,1,⟨4,4⟩⟩,⟨2,1,1,⟨1,2⟩⟩,⟨1,0,0,⟨2,2⟩⟩]⟩
theorem s_bounds:Bo Try.prog 41 [avB full] (.tup [C3,i64 9]):=Hy Ru 10000 (by kernel_rfl)
theorem s_zero:Bo Try.prog 42 [.agg [C3,C3]] (i64 1):=Hy Ru 10000 (by kernel_rfl)
theorem s_play1:Bo Try.prog 16 [avB (two 11),avT ⟨[12,5],[60,30],[4,1,2]⟩] (.tup [C3,i64 2]):=by
 have h:=Asp (two 11) ⟨[12,5],[60,30],[4,1,2]⟩ (by decide) (by decide) (by decide)
 have e:Dk (two 11) ⟨[12,5],[60,30],[4,1,2]⟩=.tup [C3,i64 2]:=by kernel_rfl
 rw [e] at h; exact h
theorem s_play2:Bo Try.prog 16 [avB (two 11),avT ⟨[10,5],[60,30],[4,1]⟩] (.tup [C3,i64 2]):=by
 have h:=Asp (two 11) ⟨[10,5],[60,30],[4,1]⟩ (by decide) (by decide) (by decide)
 have e:Dk (two 11) ⟨[10,5],[60,30],[4,1]⟩=.tup [C3,i64 2]:=by kernel_rfl
 rw [e] at h; exact h
theorem s_play3:Bo Try.prog 16 [avB full,avT ⟨[10,5],[60,30],[4,1,2]⟩] (.tup [C3,i64 11]):=by
 have h:=Asp full ⟨[10,5],[60,30],[4,1,2]⟩ (by decide) (by decide) (by decide)
 have e:Dk full ⟨[10,5],[60,30],[4,1,2]⟩=.tup [C3,i64 11]:=by kernel_rfl
 rw [e] at h; exact h
theorem s_orig1:Bo Try.prog 26 [isl [0,4,4],i64 10,i64 5] (.tup [i64 0,i64 1]):=by
 have h:=Az5 [0,4,4] 10 5 (by decide)
 have e:Qg [0,4,4] 10 5=(0,1):=by kernel_rfl
 rw [e] at h; exact h
theorem s_orig2:Bo Try.prog 26 [isl [0,4,9],i64 10,i64 21] (.tup [i64 0,i64 2]):=by
 have h:=Az5 [0,4,9] 10 21 (by decide)
 have e:Qg [0,4,9] 10 21=(0,2):=by kernel_rfl
 rw [e] at h; exact h
theorem s_made:Bo Try.prog 28 [isl [0,4,9],avR ⟨10,9⟩,avR ⟨0,0⟩,C3] (.tup [C3,i64 2]):=by
 have h:=Baq [0,4,9] ⟨10,9⟩ ⟨0,0⟩ [] (by decide) (by decide)
 have e:Kw [0,4,9] ⟨10,9⟩ ⟨0,0⟩ []=.tup [C3,i64 2]:=by kernel_rfl
 rw [e] at h
 exact Bo.of_nil 3 rfl h
theorem s_chk (b:Er) (n:Int) (h1:b.vs.length < 1000000) (h2:b.ss.length < 1000000) (e:B6 b=n):Bo Try.prog 42 [avB b] (i64 n):=e ▸ Ahw b h1 h2
theorem s_chk1:Bo Try.prog 42 [avB wide] (i64 1):=s_chk wide 1 (by decide) (by decide) (by kernel_rfl)
theorem s_chk2:Bo Try.prog 42 [avB self] (i64 1):=s_chk self 1 (by decide) (by decide) (by kernel_rfl)
theorem s_chk3:Bo Try.prog 42 [avB kindB] (i64 1):=s_chk kindB 1 (by decide) (by decide) (by kernel_rfl)
theorem s_chk4:Bo Try.prog 42 [avB roomB] (i64 1):=s_chk roomB 1 (by decide) (by decide) (by kernel_rfl)
theorem s_chk5:Bo Try.prog 42 [avB manyB] (i64 3):=s_chk manyB 3 (by decide) (by decide) (by kernel_rfl)
theorem s_pr (n g k m:Int) (l:List Stp) (r:Bool) (hin:∀ s ∈ l,inR s.kind=true∧inR s.frm=true∧inR s.to=true∧inR s.g.lo=true∧inR s.g.hi=true) (hl:l.length < 1000000) (e:proveS (two n) l g k m=r):Bo Try.prog 37 [avB (two n),.p (slS l),i64 g,i64 k,i64 m] (bl r):=e ▸ c_prove (two n) l g k m (by show (2:Nat) < _; decide) (by show (3:Nat) < _; decide) hl hin
theorem s_pr1:Bo Try.prog 37 [avB (two 10),.p (.sl [[iv 1,iv 0,iv 0,iv 2,iv 2]]),i64 12,i64 50,i64 1] (bl true):=s_pr 10 12 50 1 [⟨1,0,0,⟨2,2⟩⟩] true (by decide) (by decide) (by kernel_rfl)
theorem s_pr2:Bo Try.prog 37 [avB (two 10),.p (.sl [[iv 0,iv 1,iv 0,iv 5,iv 5]]),i64 15,i64 50,i64 1] (bl true):=s_pr 10 15 50 1 [⟨0,1,0,⟨5,5⟩⟩] true (by decide) (by decide) (by kernel_rfl)
theorem s_pr3:Bo Try.prog 37 [avB (two 10),.p (.sl [[iv 0,iv 1,iv 0,iv 5,iv 5]]),i64 15,i64 50,i64 0] (bl false):=s_pr 10 15 50 0 [⟨0,1,0,⟨5,5⟩⟩] false (by decide) (by decide) (by kernel_rfl)
theorem s_pr4:Bo Try.prog 37 [avB (two 10),.p (.sl [[iv 0,iv 1,iv 0,iv 6,iv 6]]),i64 16,i64 50,i64 9] (bl false):=s_pr 10 16 50 9 [⟨0,1,0,⟨6,6⟩⟩] false (by decide) (by decide) (by kernel_rfl)
theorem s_pr5:Bo Try.prog 37 [avB (two 11),.p (.sl [[iv 1,iv 0,iv 0,iv 2,iv 2]]),i64 12,i64 50,i64 1] (bl false):=s_pr 11 12 50 1 [⟨1,0,0,⟨2,2⟩⟩] false (by decide) (by decide) (by kernel_rfl)
theorem s_pr6:Bo Try.prog 37 [avB (two 10),.p (.sl [[iv 1,iv 0,iv 0,iv 11,iv 11]]),i64 21,i64 28,i64 9] (bl false):=s_pr 10 21 28 9 [⟨1,0,0,⟨11,11⟩⟩] false (by decide) (by decide) (by kernel_rfl)
theorem h2v:HCall Try.prog 35 [i64 11] 5 [[iv 10,iv 11,iv 60,iv 60,iv 20],[iv 5,iv 5,iv 30,iv 30,iv 12]] (fun c=>.agg [.own c 2,.p (.sl [[iv 0,iv 0,iv 1,iv 4,iv 4],[iv 2,iv 1,iv 1,iv 1,iv 2],[iv 1,iv 0,iv 0,iv 2,iv 2]])]):=by
  refine hcall_mk (v:=[]) (q:=[]) (N:=19) (i:=2) (ty:=49) Try.func35 rfl rfl rfl rfl (fun c m h=>by simp [AV.clean,AV.clean.cleanL] at h; omega) ?_
  refine Aa fun K1 hK1=>?_
  refine Ac ?_
  simp (disch:=omega) only [amL,amT,sA,sB,↓reduceIte]
  refine hK1 _ ?_
  refine Aa fun K2 hK2=>?_
  refine Ac ?_
  simp (disch:=omega) only [amL,sA,↓reduceIte,reduceCtorEq]
  repeat' first | (refine Aq (by kernel_rfl) rfl (Nq _ _) (by first | exact .inl rfl | exact .inr (.inl rfl)) ?_ ; simp (disch:=omega) only [amL,amT,sA,sB,sC,sE,sF,↓reduceIte,reduceCtorEq])
  refine hK2 _ ?_
  refine Ah ?_
  try simp (disch:=omega) only [amL,amT,sA,sB,sC,sD,sE,sF,sG,sH,sI,sJ,sK,sL,sM,sN,sO,↓reduceIte,reduceCtorEq]
  rw [RetHC_ret]; exact ⟨2,0,_,_,_,10,_,rfl,(by simp only [amT]; rfl),rfl,(by simp only [amT]; rfl),rfl,rfl,rfl,rfl⟩
theorem h2s:HCall Try.prog 35 [i64 11] 5 [[iv 0,iv 0,iv 1,iv 4,iv 4],[iv 2,iv 1,iv 1,iv 1,iv 2],[iv 1,iv 0,iv 0,iv 2,iv 2]] (fun c=>.agg [.p (.sl [[iv 10,iv 11,iv 60,iv 60,iv 20],[iv 5,iv 5,iv 30,iv 30,iv 12]]),.own c 3]):=by
  refine hcall_mk (v:=[]) (q:=[]) (N:=19) (i:=2) (ty:=49) Try.func35 rfl rfl rfl rfl (fun c m h=>by simp [AV.clean,AV.clean.cleanL] at h; omega) ?_
  refine Aa fun K1 hK1=>?_
  refine Ac ?_
  simp (disch:=omega) only [amL,amT,sA,sB,↓reduceIte]
  refine hK1 _ ?_
  refine Aa fun K2 hK2=>?_
  refine Ac ?_
  simp (disch:=omega) only [amL,sA,↓reduceIte,reduceCtorEq]
  repeat' first | (refine Aq (by kernel_rfl) rfl (Nq _ _) (by first | exact .inl rfl | exact .inr (.inl rfl)) ?_ ; simp (disch:=omega) only [amL,amT,sA,sB,sC,sE,sF,↓reduceIte,reduceCtorEq])
  refine hK2 _ ?_
  refine Ah ?_
  try simp (disch:=omega) only [amL,amT,sA,sB,sC,sD,sE,sF,sG,sH,sI,sJ,sK,sL,sM,sN,sO,↓reduceIte,reduceCtorEq]
  rw [RetHC_ret]; exact ⟨2,0,_,_,_,17,_,rfl,(by simp only [amT]; rfl),rfl,(by simp only [amT]; rfl),rfl,rfl,rfl,rfl⟩
theorem l_water (a b:Int):Bo Try.prog 38 [i64 a,i64 b] (.p (.sl [[iv 1,iv a,iv a,iv b,iv b]])):=by
  refine Bg (v:=[]) (q:=[]) (N:=12) (rs:=[.tmp 4]) Try.func38 rfl rfl rfl rfl rfl ?_
  refine Aa fun K1 hK1=>?_
  refine Ac ?_
  simp (disch:=omega) only [amL,sA,sB]
  refine hK1 _ ?_
  refine Aa fun K2 hK2=>?_
  refine My 6 ?_
  simp (disch:=omega) only [N8,Lk,amL,sA,sF,↓reduceIte,reduceCtorEq]
  repeat' first | (refine Aq (by kernel_rfl) rfl (Nq _ _) (by first | exact .inl rfl | exact .inr (.inl rfl)) ?_ ; simp (disch:=omega) only [Sh,N8,Lk,Jj,Fl,amL,amT,sA,sB,sC,sE,sF,↓reduceIte,reduceCtorEq])
  refine hK2 _ ?_
  refine Ah ?_
  try simp (disch:=omega) only [amL,↓reduceIte]
  all_goals rfl
theorem l_move (a b c:Int):Bo Try.prog 39 [i64 a,i64 b,i64 c] (.p (.sl [[iv 0,iv a,iv b,iv c,iv c]])):=by
  refine Bg (v:=[]) (q:=[]) (N:=14) (rs:=[.tmp 6]) Try.func39 rfl rfl rfl rfl rfl ?_
  refine Aa fun K1 hK1=>?_
  refine Ac ?_
  simp (disch:=omega) only [amL,sA,sB]
  refine hK1 _ ?_
  refine Aa fun K2 hK2=>?_
  refine My 6 ?_
  simp (disch:=omega) only [N8,Lk,amL,sA,sF,↓reduceIte,reduceCtorEq]
  repeat' first | (refine Aq (by kernel_rfl) rfl (Nq _ _) (by first | exact .inl rfl | exact .inr (.inl rfl)) ?_ ; simp (disch:=omega) only [Sh,N8,Lk,Jj,Fl,amL,amT,sA,sB,sC,sE,sF,↓reduceIte,reduceCtorEq])
  refine hK2 _ ?_
  refine Ah ?_
  try simp (disch:=omega) only [amL,↓reduceIte]
  all_goals rfl
theorem EO_mkR {r:RB} {N:Nat} {s:St} {K:St→Prop} {d:Nat} {ty:TypeId} {pos:String} {after:Array Edge} {g:Option (Nat × Bool)} {l c:Operand}:EO Try.prog r N ⟨some d,.makeSlice 113 l c,ty,pos,after,g⟩ s K=EOp r.b N (some d) s K (fMk 5 40 [iv 0,iv 0,iv 0,iv 0,iv 0] (r.b+d) (ev s.t l) (ev s.t c)):=
  EO_mk (e:=112) (z:=[.int .i64 0,.int .i64 0,.int .i64 0,.int .i64 0,.int .i64 0]) (by simp only [amT]) (by simp only [amT]) (by simp only [amT]) (by simp only [amT]) (by decide) rfl (by decide) (by simp only [amT]; rfl)
theorem EO_mkV {r:RB} {N:Nat} {s:St} {K:St→Prop} {d:Nat} {ty:TypeId} {pos:String} {after:Array Edge} {g:Option (Nat × Bool)} {l c:Operand}:EO Try.prog r N ⟨some d,.makeSlice 46 l c,ty,pos,after,g⟩ s K=EOp r.b N (some d) s K (fMk 5 40 [iv 0,iv 0,iv 0,iv 0,iv 0] (r.b+d) (ev s.t l) (ev s.t c)):=
  EO_mk (e:=56) (z:=[.int .i64 0,.int .i64 0,.int .i64 0,.int .i64 0,.int .i64 0]) (by simp only [amT]) (by simp only [amT]) (by simp only [amT]) (by simp only [amT]) (by decide) rfl (by decide) (by simp only [amT]; rfl)
theorem fMk5 {d:Nat} {z:List PV}:fMk 5 40 z d (i64 5) (i64 5)=some (.new (.arr 5 (List.replicate 5 z)) (.own d 5)):=rfl
theorem c_wortNames:Bo Try.prog 6 [] (bl true):=by
  refine Bg (v:=[]) (q:=[]) (N:=302) (rs:=[.tmp 0]) Try.func6 rfl rfl rfl rfl rfl ?_
  refine Aa fun K1 hK1=>?_
  refine Ac ?_
  simp (disch:=omega) only [amL,sA]
  refine hK1 _ ?_
  refine Aa fun K2 hK2=>?_
  refine Ac ?_
  simp (disch:=omega) only [amL]
  repeat' first | (refine Aq (by kernel_rfl) rfl (Acv _) (by first | exact .inl rfl | exact .inr (.inl rfl)) ?_ ; simp (disch:=omega) only [amL,↓reduceIte]) | (refine Aq (by kernel_rfl) rfl (by first | exact s_few1 | exact s_few2 | exact s_few3 | exact s_few4 | exact s_few5 | exact s_few6) (by first | exact .inl rfl | exact .inr (.inl rfl)) ?_ ; simp (disch:=omega) only [amL,sA,sF,↓reduceIte])
  refine hK2 _ ?_
  refine Aa fun K3 hK3=>?_
  refine Ac ?_
  simp (disch:=omega) only [amL]
  repeat' first | (refine Aq (by kernel_rfl) rfl (Acv _) (by first | exact .inl rfl | exact .inr (.inl rfl)) ?_ ; simp (disch:=omega) only [amL,↓reduceIte]) | (refine Aq (by kernel_rfl) rfl (by first | exact s_few1 | exact s_few2 | exact s_few3 | exact s_few4 | exact s_few5 | exact s_few6) (by first | exact .inl rfl | exact .inr (.inl rfl)) ?_ ; simp (disch:=omega) only [amL,sA,sF,↓reduceIte])
  refine hK3 _ ?_
  refine Aa fun K4 hK4=>?_
  refine Ac ?_
  simp (disch:=omega) only [amL]
  repeat' first | (refine Aq (by kernel_rfl) rfl (Acv _) (by first | exact .inl rfl | exact .inr (.inl rfl)) ?_ ; simp (disch:=omega) only [amL,↓reduceIte]) | (refine Aq (by kernel_rfl) rfl (by first | exact s_few1 | exact s_few2 | exact s_few3 | exact s_few4 | exact s_few5 | exact s_few6) (by first | exact .inl rfl | exact .inr (.inl rfl)) ?_ ; simp (disch:=omega) only [amL,sA,sF,↓reduceIte])
  refine hK4 _ ?_
  refine Aa fun K5 hK5=>?_
  refine Ac ?_
  simp (disch:=omega) only [amL]
  repeat' first | (refine Aq (by kernel_rfl) rfl (Acv _) (by first | exact .inl rfl | exact .inr (.inl rfl)) ?_ ; simp (disch:=omega) only [amL,↓reduceIte]) | (refine Aq (by kernel_rfl) rfl (by first | exact s_leave1 | exact s_leave2 | exact s_leave3) (by first | exact .inl rfl | exact .inr (.inl rfl)) ?_ ; simp (disch:=omega) only [amL,sA,sF,↓reduceIte])
  refine hK5 _ ?_
  refine Aa fun K6 hK6=>?_
  refine Aa fun K7 hK7=>?_
  refine Ac ?_
  simp only [List.append]
  simp (disch:=omega) only [ne_eq,amL,amT,sA,sF,sH,↓reduceIte]
  repeat' first | (refine Dp (fun h=>?_) (fun h=>?_) <;> simp (disch:=omega) only [h,Sh,N8,Lk,Ahq,Abi,Acs,Ux,Jj,Fl,List.append_eq,ne_eq,EO_mkR,EO_mkV,fMk5,amL,amT,sA,sB,sC,sD,sE,sF,sG,sH,sI,sJ,sK,sL,sM,sN,sO,↓reduceIte,reduceCtorEq]) | (refine B0 (fun h=>?_) (fun h=>?_) <;> simp (disch:=omega) only [h,Sh,N8,Lk,Ahq,Abi,Acs,Ux,Jj,Fl,List.append_eq,ne_eq,EO_mkR,EO_mkV,fMk5,amL,amT,sA,sB,sC,sD,sE,sF,sG,sH,sI,sJ,sK,sL,sM,sN,sO,↓reduceIte,reduceCtorEq]) | (refine Aq (by kernel_rfl) rfl (Acv _) (by first | exact .inl rfl | exact .inr (.inl rfl)) ?_ ; simp (disch:=omega) only [amL,sA,sF,↓reduceIte]) | (refine Aq (by kernel_rfl) rfl (l_water _ _) (by first | exact .inl rfl | exact .inr (.inl rfl)) ?_ ; simp (disch:=omega) only [amL,sA,sF,↓reduceIte]) | (refine Aq (by kernel_rfl) rfl (by first | exact s_pr1 | exact s_pr2 | exact s_pr3 | exact s_pr4 | exact s_pr5 | exact s_pr6) (by first | exact .inl rfl | exact .inr (.inl rfl)) ?_ ; simp (disch:=omega) only [amL,sA,sF,↓reduceIte]) | (refine Aq (by kernel_rfl) rfl (l_move _ _ _) (by first | exact .inl rfl | exact .inr (.inl rfl)) ?_ ; simp (disch:=omega) only [amL,sA,sF,↓reduceIte])
  all_goals
   skip
   refine hK7 _ ?_
   refine Aj rfl (fun h=>?_) (fun h=>?_)
   ·first
    | exact Bool.noConfusion h
    |skip
     try simp only [Bool.not_eq_true',decide_eq_true_eq,decide_eq_false_iff_not,Bool.and_eq_true,Bool.not_eq_false',Bool.not_not,decide_not,Bool.not_true,Bool.not_false] at h
     refine Aa fun K8 hK8=>?_
     refine Ac ?_
     simp (disch:=omega) only [Sh,N8,Lk,Ahq,Abi,Acs,Ux,Jj,Fl,List.append_eq,ne_eq,EO_mkR,EO_mkV,fMk5,amL,amT,sA,sB,sC,sD,sE,sF,sG,sH,sI,sJ,sK,sL,sM,sN,sO,↓reduceIte,reduceCtorEq]
     refine hK8 _ ?_
     refine Ah ?_
     try simp (disch:=omega) only [Sh,N8,Lk,Ahq,Abi,Acs,Ux,Jj,Fl,List.append_eq,ne_eq,EO_mkR,EO_mkV,fMk5,amL,amT,sA,sB,sC,sD,sE,sF,sG,sH,sI,sJ,sK,sL,sM,sN,sO,↓reduceIte,reduceCtorEq]
     all_goals first | rfl | trace_state
   ·first
    | exact Bool.noConfusion h
    |skip
     try simp only [] at h
     refine Ak ?_
     refine hK6 _ ?_
     refine Aa fun K9 hK9=>?_
     refine Ze [false,true,true,true] ?_
     simp (disch:=omega) only [Acs,amL]
     repeat' first | (refine Aq (by kernel_rfl) rfl (Acv _) (by first | exact .inl rfl | exact .inr (.inl rfl)) ?_ ; simp (disch:=omega) only [Ahq,Abi,Ux,Jj,Fl,amL,amT,sA,sB,sE,sF,↓reduceIte,reduceCtorEq]) | (refine Aq (by kernel_rfl) rfl (by first | exact s_play1 | exact s_play2 | exact s_play3) (by first | exact .inl rfl | exact .inr (.inl rfl)) ?_ ; simp (disch:=omega) only [amL,sA,sF,↓reduceIte])
     refine hK9 _ ?_
     refine Aa fun K10 hK10=>?_
     refine Ze [false,true,true,true] ?_
     simp (disch:=omega) only [Acs,amL]
     repeat' first | (refine Aq (by kernel_rfl) rfl (Acv _) (by first | exact .inl rfl | exact .inr (.inl rfl)) ?_ ; simp (disch:=omega) only [Ahq,Abi,Ux,Jj,Fl,amL,amT,sA,sB,sE,sF,↓reduceIte,reduceCtorEq]) | (refine Aq (by kernel_rfl) rfl (by first | exact s_play1 | exact s_play2 | exact s_play3) (by first | exact .inl rfl | exact .inr (.inl rfl)) ?_ ; simp (disch:=omega) only [amL,sA,sF,↓reduceIte])
     refine hK10 _ ?_
     refine Aa fun K11 hK11=>?_
     refine Ac ?_
     simp (disch:=omega) only [amL]
     repeat' first | (refine Aq (by kernel_rfl) rfl (Acv _) (by first | exact .inl rfl | exact .inr (.inl rfl)) ?_ ; simp (disch:=omega) only [amL,↓reduceIte]) | (refine Aq (by kernel_rfl) rfl (by first | exact s_few1 | exact s_few2 | exact s_few3 | exact s_few4 | exact s_few5 | exact s_few6) (by first | exact .inl rfl | exact .inr (.inl rfl)) ?_ ; simp (disch:=omega) only [amL,sA,sF,↓reduceIte])
     refine hK11 _ ?_
     refine Aa fun K12 hK12=>?_
     refine Ac ?_
     simp (disch:=omega) only [amL]
     repeat' first | (refine Aq (by kernel_rfl) rfl (Acv _) (by first | exact .inl rfl | exact .inr (.inl rfl)) ?_ ; simp (disch:=omega) only [amL,↓reduceIte]) | (refine Aq (by kernel_rfl) rfl (by first | exact s_few1 | exact s_few2 | exact s_few3 | exact s_few4 | exact s_few5 | exact s_few6) (by first | exact .inl rfl | exact .inr (.inl rfl)) ?_ ; simp (disch:=omega) only [amL,sA,sF,↓reduceIte])
     refine hK12 _ ?_
     refine Aa fun K13 hK13=>?_
     refine Ac ?_
     simp (disch:=omega) only [amL]
     repeat' first | (refine Aq (by kernel_rfl) rfl (Acv _) (by first | exact .inl rfl | exact .inr (.inl rfl)) ?_ ; simp (disch:=omega) only [amL,↓reduceIte]) | (refine Aq (by kernel_rfl) rfl (by first | exact s_few1 | exact s_few2 | exact s_few3 | exact s_few4 | exact s_few5 | exact s_few6) (by first | exact .inl rfl | exact .inr (.inl rfl)) ?_ ; simp (disch:=omega) only [amL,sA,sF,↓reduceIte])
     refine hK13 _ ?_
     refine Aa fun K14 hK14=>?_
     refine My 2 ?_
     simp (disch:=omega) only [N8,amL]
     repeat' first | (refine Aq (by kernel_rfl) rfl (Acv _) (by first | exact .inl rfl | exact .inr (.inl rfl)) ?_ ; simp (disch:=omega) only [Sh,N8,Lk,Jj,Fl,amL,amT,sA,sB,sC,sE,sF,↓reduceIte,reduceCtorEq]) | (refine Aq (by kernel_rfl) rfl (by first | exact s_leave1 | exact s_leave2 | exact s_leave3) (by first | exact .inl rfl | exact .inr (.inl rfl)) ?_ ; simp (disch:=omega) only [amL,sA,sF,↓reduceIte])
     refine hK14 _ ?_
     refine Aa fun K15 hK15=>?_
     refine Cb (by kernel_rfl) (by kernel_rfl) ?_
     simp (disch:=omega) only [amL]
     repeat' first | (refine Aq (by kernel_rfl) rfl (Acv _) (by first | exact .inl rfl | exact .inr (.inl rfl)) ?_ ; simp (disch:=omega) only [EO_mkR,fMk5,amL,sA,sF,↓reduceIte]) | (refine Aq (by kernel_rfl) rfl (by first | exact s_leave1 | exact s_leave2 | exact s_leave3) (by first | exact .inl rfl | exact .inr (.inl rfl)) ?_ ; simp (disch:=omega) only [amL,sA,sF,↓reduceIte])
     refine hK15 _ ?_
     refine Aa fun K16 hK16=>?_
     refine My 0 ?_
     simp (disch:=omega) only [Sh,Jj,Fl,amL,amT,sA,sB,sE,↓reduceIte,reduceCtorEq]
     repeat' first | (refine Aq (by kernel_rfl) rfl (by first | exact s_orig1 | exact s_orig2) (by first | exact .inl rfl | exact .inr (.inl rfl)) ?_ ; simp (disch:=omega) only [amL,sA,sF,↓reduceIte])
     refine hK16 _ ?_
     refine Aa fun K17 hK17=>?_
     refine My 0 ?_
     simp (disch:=omega) only [Sh,Jj,Fl,amL,amT,sA,sB,sE,↓reduceIte,reduceCtorEq]
     repeat' first | (refine Aq (by kernel_rfl) rfl (by first | exact s_orig1 | exact s_orig2) (by first | exact .inl rfl | exact .inr (.inl rfl)) ?_ ; simp (disch:=omega) only [amL,sA,sF,↓reduceIte])
     refine hK17 _ ?_
     refine Aa fun K18 hK18=>?_
     refine My 0 ?_
     simp (disch:=omega) only [Sh,Jj,Fl,amL,amT,sA,sB,sE,↓reduceIte,reduceCtorEq]
     repeat' first | (refine Aq (by kernel_rfl) rfl (Nq _ _) (by first | exact .inl rfl | exact .inr (.inl rfl)) ?_ ; simp (disch:=omega) only [amL,sF,↓reduceIte]) | (refine Aq (by kernel_rfl) rfl (s_made) (by first | exact .inl rfl | exact .inr (.inl rfl)) ?_ ; simp (disch:=omega) only [amL,sA,sF,↓reduceIte])
     refine hK18 _ ?_
     refine Aa fun K19 hK19=>?_
     refine C0 ?_
     refine al_hcall h2v (by decide) (by kernel_rfl) (by rfl) (by rfl) ?_
     refine al_hcall h2v (by decide) (by kernel_rfl) (by rfl) (by rfl) ?_
     refine al_hcall h2s (by decide) (by kernel_rfl) (by rfl) (by rfl) ?_
     refine al_hcall h2s (by decide) (by kernel_rfl) (by rfl) (by rfl) ?_
     refine al_hcall h2v (by decide) (by kernel_rfl) (by rfl) (by rfl) ?_
     refine al_hcall h2v (by decide) (by kernel_rfl) (by rfl) (by rfl) ?_
     refine Dd ?_
     simp (disch:=omega) only [amL,amT,sA,sB,sF,↓reduceIte]
     refine hK19 _ ?_
     refine Aa fun K20 hK20=>?_
     refine Ac ?_
     simp (disch:=omega) only [amL,amT,sA,sB,sF,sH,sK,sL,sN,↓reduceIte,reduceCtorEq]
     refine hK20 _ ?_
     refine Aa fun K21 hK21=>?_
     refine Ac ?_
     simp (disch:=omega) only [amL,amT,sA,sB,sF,↓reduceIte]
     repeat' first | (refine Aq (by kernel_rfl) rfl (s_bounds) (by first | exact .inl rfl | exact .inr (.inl rfl)) ?_ ; simp (disch:=omega) only [amL,sA,sF,↓reduceIte])
     refine hK21 _ ?_
     refine Aa fun K22 hK22=>?_
     refine Ze [false,true,true,true] ?_
     simp (disch:=omega) only [Ahq,Abi,Acs,Ux,Jj,Fl,amL,amT,sA,sB,sE,sF,↓reduceIte,reduceCtorEq]
     repeat' first | (refine Aq (by kernel_rfl) rfl (by first | exact s_play1 | exact s_play2 | exact s_play3) (by first | exact .inl rfl | exact .inr (.inl rfl)) ?_ ; simp (disch:=omega) only [amL,sA,sF,↓reduceIte])
     refine hK22 _ ?_
     refine Aa fun K23 hK23=>?_
     refine Cb (by kernel_rfl) (by kernel_rfl) ?_
     simp (disch:=omega) only [amL,amT,sA,sF,↓reduceIte,reduceCtorEq]
     repeat' first | (refine Aq (by kernel_rfl) rfl (Nq _ _) (by first | exact .inl rfl | exact .inr (.inl rfl)) ?_ ; simp (disch:=omega) only [amL,amT,sA,sB,sE,sF,sH,sK,sL,sN,↓reduceIte,reduceCtorEq])
     refine hK23 _ ?_
     refine Aa fun K24 hK24=>?_
     refine Ac ?_
     simp (disch:=omega) only [amL,amT,sA,sB,sE,sF,sH,sK,sL,sN,↓reduceIte,reduceCtorEq]
     refine hK24 _ ?_
     refine Aa fun K25 hK25=>?_
     refine Ac ?_
     simp (disch:=omega) only [amL,amT,sA,sB,sE,sF,sH,sK,sL,sN,↓reduceIte,reduceCtorEq]
     refine hK25 _ ?_
     refine Aa fun K26 hK26=>?_
     refine Ac ?_
     simp (disch:=omega) only [amL,amT,sA,sB,sF,sH,sK,sL,sN,↓reduceIte,reduceCtorEq]
     refine hK26 _ ?_
     refine Aa fun K27 hK27=>?_
     refine Ac ?_
     simp (disch:=omega) only [EO_mkV,fMk5,amL,amT,sA,sB,sE,sF,↓reduceIte,reduceCtorEq]
     refine hK27 _ ?_
     refine Aa fun K28 hK28=>?_
     refine Ac ?_
     simp only [List.append]
     simp (disch:=omega) only [amL,amT,sA,sB,sF,↓reduceIte]
     repeat' first | (refine Dp (fun h=>?_) (fun h=>?_) <;> simp (disch:=omega) only [h,Sh,N8,Lk,Ahq,Abi,Acs,Ux,Jj,Fl,List.append_eq,ne_eq,EO_mkR,EO_mkV,fMk5,amL,amT,sA,sB,sC,sD,sE,sF,sG,sH,sI,sJ,sK,sL,sM,sN,sO,↓reduceIte,reduceCtorEq]) | (refine B0 (fun h=>?_) (fun h=>?_) <;> simp (disch:=omega) only [h,Sh,N8,Lk,Ahq,Abi,Acs,Ux,Jj,Fl,List.append_eq,ne_eq,EO_mkR,EO_mkV,fMk5,amL,amT,sA,sB,sC,sD,sE,sF,sG,sH,sI,sJ,sK,sL,sM,sN,sO,↓reduceIte,reduceCtorEq]) | (refine Aq (by kernel_rfl) rfl (by first | exact s_chk1 | exact s_chk2 | exact s_chk3 | exact s_chk4 | exact s_chk5 | exact s_zero) (by first | exact .inl rfl | exact .inr (.inl rfl)) ?_ ; simp (disch:=omega) only [amL,amT,sA,sB,sF,↓reduceIte]) | (refine Aq (by kernel_rfl) rfl (Bgm) (by first | exact .inl rfl | exact .inr (.inl rfl)) ?_ ; simp (disch:=omega) only [amL,sA,sF,↓reduceIte])
     all_goals
      skip
      refine hK28 _ ?_
      refine Ah ?_
      try simp (disch:=omega) only [amL,↓reduceIte]
      all_goals first | rfl | trace_state
end AM.Try
end
