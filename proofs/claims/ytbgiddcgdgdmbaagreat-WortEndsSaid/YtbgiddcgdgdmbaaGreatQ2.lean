/- Lemmas for the proof: an abstract machine over the program's form in Lean, and the program's functions walked on it. -/
import Derived.Test.YtbgiddcgdgdmbaaGreatQ1
import Derived.DeepKeys3
import Derived.Laws.Cover3
import Derived.Scope
/- The abstract machine, part 32: the statement that ranges over a function; code behind it; contracts of functions that hold one. -/
section
namespace AM
open Go
def Aih (D:Nat):Deferred:={ target:=.collected D,args:=#[] }
def Aqk (r:RB) (N B:Nat) (S:Nat→Prop) (θ:Nat→Loc) (M:Nat→Prop) (w:World) (a:Act) (st':St) (a':Act) (w':World):Prop:=
  ∃ θ' M',Aq N B S θ' M' w' st' a'∧A8 (fun b=>B≤b∨S b) w w'∧(∀ n,n < r.b→¬ r.mv n→θ' n=θ n)∧(∀ b,b < B→M b→¬ S b→M' b) ∧
    ∃ L:List Nat,a'.defers=L.map Aih++a.defers∧L.Nodup∧∀ D ∈ L,w'.heap[D]?=some (.deferred (some []))∧M' D∧B≤D∧∀ n o,st'.o n=some o→(θ' n).nil=false→(θ' n).blk≠D
def Ey (P:Program) (r:RB) (N:Nat) (c:Code) (st:St) (Q:AEx→St→Prop):Prop:=
  ∀ B S θ M w a,Aq N B S θ M w st a→c.wpIn (Wd r.rd) 0 P (fun e a' w'=>∃ ae st',e=ae.toExit∧Q ae st'∧Aqk r N B S θ M w a st' a' w') a w
section
variable {P:Program} {r:RB} {N B:Nat} {S:Nat→Prop} {θ:Nat→Loc} {M:Nat→Prop} {w:World} {st:St} {a:Act} {Q:AEx→St→Prop}
theorem Dz {c:Code} (h:AWP P r N c st Q):Ey P r N c st Q:=fun B S θ M w a hs=>
  wpIn_mono (h B S θ M w a hs) fun _ _ _ ⟨ae,st',h1,h2,⟨θ',M',h3,h4,h5,h6⟩,h7⟩=>⟨ae,st',h1,h2,θ',M',h3,h4,h5,h6,[],by simpa using h7,.nil,fun D hD=>by cases hD⟩
theorem Ey.at {c:Code} (h:Ey P r N c st Q) {w':World} {a':Act} (hf:Aqk r N B S θ M w a st a' w') :
    c.wpIn (Wd r.rd) 0 P (fun e a'' w''=>∃ ae st',e=ae.toExit∧Q ae st'∧Aqk r N B S θ M w a st' a'' w'') a' w':=by
  obtain ⟨θ1,M1,hs,hk,ht,hm,L,hL,hnd,hD⟩:=hf
  have hs1:Aq N w'.heap.size (fun b=>(B≤b∨S b)∧b ∉ L) θ1 M1 w' st a':=
    ⟨hs.size,hs.tm,hs.ob,fun n o hn hnil=>⟨(hs.lv n o hn hnil).1,.inr ⟨(hs.lv n o hn hnil).2,fun hmem=>(hD _ hmem).2.2.2 n o hn hnil rfl⟩⟩,hs.inj,Nat.le_refl _,hs.mlt,hs.cl⟩
  refine wpIn_mono (h _ _ θ1 M1 w' a' hs1) ?_
  rintro e a2 w2 ⟨ae,st2,rfl,hq,θ2,M2,hs2,hk2,ht2,hm2,L2,hL2,hnd2,hD2⟩
  have hlt:∀ D ∈ L,D < w'.heap.size:=fun D hd=>(Array.getElem?_eq_some_iff.1 (hD D hd).1).1
  refine ⟨ae,st2,rfl,hq,θ2,M2,⟨hs2.size,hs2.tm,hs2.ob,fun n o hn hnil=>?_,hs2.inj,Nat.le_trans hs.base hs2.base,hs2.mlt,hs2.cl⟩,?_,fun n hn hv=>(ht2 n hn hv).trans (ht n hn hv),fun b hb hM hn=>hm2 b (Nat.lt_of_lt_of_le hb hs.base) (hm b hb hM hn) (fun h=>h.1.elim (fun e=>by omega) hn),L2++L,by rw [hL2,hL]; simp,?_,?_⟩
  · obtain ⟨h1,h2⟩:=hs2.lv n o hn hnil
    exact ⟨h1,h2.elim (fun h=>.inl (Nat.le_trans hs.base h)) (fun h=>h.1)⟩
  · exact hk.trans (hk2.mono (M':=fun b=>B≤b∨S b) (fun b hb=>hb.elim (fun h=>.inl (Nat.le_trans hs.base h)) (fun h=>h.1))) (fun _ _ h=>h)
  · rw [List.nodup_append]
    exact ⟨hnd2,hnd,fun x hx y hy e=>by
      subst e
      have h1:=(hD2 x hx).2.2.1
      have h2:=hlt x hy
      omega⟩
  · intro D hd
    rcases List.mem_append.1 hd with hd | hd
    · obtain ⟨h1,h2,h3,h4⟩:=hD2 D hd
      exact ⟨h1,h2,Nat.le_trans hs.base h3,h4⟩
    · obtain ⟨h1,h2,h3,h4⟩:=hD D hd
      have hl:=hlt D hd
      refine ⟨(hk2.same D hl (fun e=>e.elim (fun e=>by omega) (fun e=>e.2 hd))).trans h1,hm2 D hl h2 (fun e=>e.2 hd),h3,fun n o hn hnil eb=>?_⟩
      obtain ⟨_,h6⟩:=hs2.lv n o hn hnil
      rcases h6 with h6 | h6
      · rw [eb] at h6; omega
      · rw [eb] at h6; exact h6.2 hd
theorem Uy {x y:Code} (h:Ey P r N x st (Jr (fun s=>Ey P r N y s Q) Q)):Ey P r N (.seq x y) st Q:=by
  intro B S θ M w a hs
  refine wpIn_seq (wpIn_mono (h B S θ M w a hs) fun e a' w' ⟨ae,st',h1,h2,h3⟩=>?_)
  subst h1
  cases ae with
  | normal=>exact Ey.at h2 h3
  | exit id=>exact ⟨.exit id,st',rfl,h2,h3⟩
  | ret=>exact ⟨.ret,st',rfl,h2,h3⟩
theorem Ad8 {x y:Code} (h:∀ K:St→Prop,(∀ s,Ey P r N y s Q→K s)→Ey P r N x st (Jr K Q)):Ey P r N (.seq x y) st Q:=Uy (h _ fun _ h=>h)
theorem Lm {x y:Code} (h:∀ K:St→Prop,(∀ s,Ey P r N y s Q→K s)→AWP P r N x st (Jr K Q)):Ey P r N (.seq x y) st Q:=Uy (Dz (h _ fun _ h=>h))
theorem T6 {id:Nat} {c:Code} (h:Ey P r N c st (L1 id Q)):Ey P r N (.block id c) st Q:=by
  intro B S θ M w a hs
  refine wpIn_block (wpIn_mono (h B S θ M w a hs) fun e a' w' ⟨ae,st',h1,h2,h3⟩=>?_)
  subst h1
  cases ae with
  | normal=>exact ⟨.normal,st',rfl,h2,h3⟩
  | ret=>exact ⟨.ret,st',rfl,h2,h3⟩
  | exit i=>
    simp only [L1] at h2
    simp only [AEx.toExit,Exit.inBlock]
    split at h2
    · rename_i hi; rw [if_pos hi]; exact ⟨.normal,st',rfl,h2,h3⟩
    · rename_i hi; rw [if_neg hi]; exact ⟨.exit i,st',rfl,h2,h3⟩
theorem Aq.defers (h:Aq N B S θ M w st a) (d:List Deferred):Aq N B S θ M w st { a with defers:=d }:=⟨h.size,h.tm,h.ob,h.lv,h.inj,h.base,h.mlt,h.cl⟩
theorem Aq.allocM (h:Aq N B S θ M w st a) (x:Obj):Aq N B S θ (fun b=>M b∨b=w.heap.size) (w.alloc x) st a:=by
  have hs:∀ b,b < w.heap.size→(w.alloc x).heap[b]?=w.heap[b]?:=fun b hb=>by
    show (w.heap.push x)[b]?=_
    rw [Array.getElem?_push,if_neg (by omega)]
  have hM:∀ b,b < w.heap.size→(M b∨b=w.heap.size)→M b:=fun b hb hm=>hm.elim id (fun e=>by omega)
  have hsz:(w.alloc x).heap.size=w.heap.size+1:=by simp
  refine ⟨h.size,fun i=>(h.tm i).mono (fun b hb _=>hs b hb) hM,fun n o hn=>(h.ob n o hn).mono (fun hnil=>hs _ (h.mlt _ (h.lv n o hn hnil).1)) (fun y v hr _=>hr.mono (fun b hb _=>hs b hb) hM) (fun y v hp=>hp.mono (fun b hb _=>hs b hb) hM),
    fun n o hn hnil=>⟨.inl (h.lv n o hn hnil).1,(h.lv n o hn hnil).2⟩,h.inj,by rw [hsz]; exact Nat.le_succ_of_le h.base,fun b hb=>?_,h.cl⟩
  rw [hsz]
  rcases hb with hb | rfl
  · have:=h.mlt b hb; omega
  · omega
theorem S8 {bd:Nat} {mv:Nat→Prop} (hmv:∀ n,mv n→r.mv n∨r.b≤n) (hmb:¬ mv bd) {g:Operand} {ps:Array Tmp} {assign body:Code} {f:Nat} {fs cs:List AV} {tm:List (Nat × AV)} {R:AV→(Nat→Option AO)→Prop} (hro:r.rd=none) (hbd:∀ n,bd≤n→st.o n=none) (hb:r.b≤bd) (hg:ev st.t g=.fn (.func f) fs cs) (hcal:A7 P f=true)
    (htm:∀ i,T tm i=.undef∨T tm i=st.t i) (htm':∀ (j:Nat) (p:Nat × AV),tm[j]?=some p→p.2=.undef∨p.2=st.t p.1) (hts:∀ i,(T tm i).stays mv)
    (hcall:Gn P mv (bd+1) (ev st.t g) [.yld bd] (upd st.o bd (some (.loop ⟨N,ps.toList,assign,body,.ready,none⟩ tm))) R)
    (hR:∀ res os',R res os'→(Hp os').closed→∃ k',os' bd=some (.loop k' tm)∧k'.state≠.busy ∧
      (match k'.pending with
       | none=>Q .normal ⟨T tm,upd os' bd (some (.loop { k' with state:=.exhausted } tm))⟩
       | some .ret=>Q .ret ⟨T tm,upd os' bd (some (.loop { k' with state:=.exhausted } tm))⟩
       | some (.exit i)=>Q (.exit i) ⟨T tm,upd os' bd (some (.loop { k' with state:=.exhausted } tm))⟩
       | _=>False)):Ey P r N (.rangeFunc g ps assign body) st Q:=by
  intro B S θ M w a hs
  rw [hro]
  refine wpIn_rangeFunc (F:=Wd none) ?_
  intro fn _
  have hD:=hs.allocM (.deferred (some []))
  have hsz:(w.alloc (.deferred (some []))).heap.size=w.heap.size+1:=by simp
  generalize hwD:w.alloc (.deferred (some []))=wD at *
  have hDat:wD.heap[w.heap.size]?=some (.deferred (some [])):=by rw [← hwD]; exact World.alloc_heap_new w _
  have hkD:A8 (fun b=>B≤b∨S b) w wD:=by rw [← hwD]; exact A8.alloc _ _ _
  obtain ⟨rec,hrec⟩:∃ rec:Loop,rec={ state:=.ready,pending:=none,fn,tmps:=a.tmps,params:=ps,assign,body,defers:=w.heap.size }:=⟨_,rfl⟩
  have hsz1:(wD.alloc (.loop rec)).heap.size=w.heap.size+2:=by simp [hsz]
  have hL:(wD.alloc (.loop rec)).heap[w.heap.size+1]?=some (.loop rec):=by have:=World.alloc_heap_new wD (.loop rec); rwa [hsz] at this
  have hk1:∀ b,b < wD.heap.size→(wD.alloc (.loop rec)).heap[b]?=wD.heap[b]?:=fun b hb=>by
    show (wD.heap.push _)[b]?=_
    rw [Array.getElem?_push,if_neg (by omega)]
  have hkL:A8 (fun b=>B≤b∨S b) wD (wD.alloc (.loop rec)):=A8.alloc _ _ _
  have hfree:st.o bd=none:=hbd bd (Nat.le_refl _)
  have hclt:∀ (j:Nat) (p:Nat × AV),tm[j]?=some p→p.2.lives st.o:=fun j p hp=>by
    rcases htm' j p hp with e | e
    · rw [e]; exact AV.lives_undef _
    · rw [e]; exact hs.cl.1 _
  have hMm:∀ b,b < wD.heap.size→((M b∨b=w.heap.size)∨(false=false∧b=w.heap.size+1))→(M b∨b=w.heap.size):=fun b hb hm=>hm.elim id (fun e=>by omega)
  have hnew:=hD.new (d:=bd) hfree (w':=wD.alloc (.loop rec)) (l:=⟨w.heap.size+1,0,false⟩) (o:=.loop ⟨N,ps.toList,assign,body,.ready,none⟩ tm) (by simp) hk1 (fun _=>⟨by show _≤w.heap.size+1; omega,by show w.heap.size+1 < _; omega⟩)
    (by
      refine ⟨rfl,fn,a.tmps,w.heap.size,?_,hs.size,fun j p hp=>?_⟩
      · show (wD.alloc (.loop rec)).heap[w.heap.size+1]?=_
        rw [hL,hrec]
      · have hb:=hclt j p hp
        rcases htm' j p hp with e | e
        · rw [e]; exact .undef _
        · have h1:=hD.tm p.1
          rw [← e] at h1
          exact (h1.mono (fun b hb _=>hk1 b hb) hMm).rename (clean_of_free hfree hb))
    (by rw [AO.lives_loop]; exact fun j p hp=>AV.lives_mono (fun n hn=>by
      by_cases e:n=bd
      · subst e; simp
      · rw [Ar e]; exact hn) (hclt j p hp))
  generalize hw1:wD.alloc (.loop rec)=w1 at *
  have hnew:Aq N B S (Db θ bd ⟨w.heap.size+1,0,false⟩) (fun b=>(M b∨b=w.heap.size)∨(false=false∧b=w.heap.size+1)) w1 ⟨st.t,upd st.o bd (some (.loop ⟨N,ps.toList,assign,body,.ready,none⟩ tm))⟩ a:=hnew
  have hblk:∀ b,Akl ⟨st.t,upd st.o bd (some (.loop ⟨N,ps.toList,assign,body,.ready,none⟩ tm))⟩ (Db θ bd ⟨w.heap.size+1,0,false⟩) b→b≠w.heap.size∧((M b∨b=w.heap.size)∨(false=false∧b=w.heap.size+1))∧(B≤b∨S b):=by
    rintro b ⟨n,o,hn,hnil,rfl⟩
    refine ⟨?_,hnew.lv n o hn hnil⟩
    by_cases e:n=bd
    · subst e; simp
    · have hn':st.o n=some o:=by have hn:upd st.o bd _ n=some o:=hn; rwa [Ar e] at hn
      rw [Ay e] at hnil ⊢
      have:=hs.mlt _ (hs.lv n o hn' hnil).1
      omega
  have hbd1:∀ n,bd+1≤n→upd st.o bd (some (.loop ⟨N,ps.toList,assign,body,.ready,none⟩ tm)) n=none:=fun n hn=>by rw [Ar (by omega)]; exact hbd n (by omega)
  have hgv:=Am hnew g
  have hgv':Al (Db θ bd ⟨w.heap.size+1,0,false⟩) (fun b=>(M b∨b=w.heap.size)∨(false=false∧b=w.heap.size+1)) w1 (ev st.t g) (a.eval g):=hgv
  have hyl:Al (Db θ bd ⟨w.heap.size+1,0,false⟩) (fun b=>(M b∨b=w.heap.size)∨(false=false∧b=w.heap.size+1)) w1 (.yld bd) (.func (.yield (w.heap.size+1)) #[] #[]):=by
    have:=Al.yld (θ:=Db θ bd ⟨w.heap.size+1,0,false⟩) (M:=fun b=>(M b∨b=w.heap.size)∨(false=false∧b=w.heap.size+1)) (w:=w1) bd
    simpa using this
  obtain ⟨nx,hrun,hruns⟩:=hcall hbd1 _ _ _ w1 (a.eval g) #[.func (.yield (w.heap.size+1)) #[] #[]] hnew.toHp hgv' rfl (fun i x hx=>by
      cases i with
      | zero=>cases hx; exact hyl
      | succ i=>simp at hx) (Ci hnew g) (fun i x hx=>by
      cases i with
      | zero=>
        cases hx
        intro n hn
        simp only [AV.clean,bne_eq_false_iff_eq] at hn
        subst hn; simp
      | succ i=>simp at hx)
  generalize hgg:a.eval g=gv at *
  rw [hg] at hgv'
  cases hgv' with
  | fn _ _ _ vfs vcs g1 g2 g3 g4=>
    rw [Ec hcal] at hrun
    cases hrun
    have hinv:=Ec (w:=w1) (vfs:=vfs) (vcs:=vcs) (vs:=#[.func (.yield (w.heap.size+1)) #[] #[]]) hcal
    refine ⟨w.heap.size+1,[Aih w.heap.size],w1,{ target:=.fn (.func f) vcs,args:=vfs++#[.func (.yield (w.heap.size+1)) #[] #[]] },w1,f,vfs++#[.func (.yield (w.heap.size+1)) #[] #[]]++vcs,w1,?_,?_,fun _ _=>trivial,?_,fun h=>by simp [Wd] at h,?_⟩
    · have:=run_enterLoop_outer (P:=P) (w:=w) fn a.tmps ps assign body
      rw [hwD,← hrec,hw1] at this
      exact this
    · simp only [resolve,hgg]
      simp [Deferred.ofValue,Act.eval]
    · simpa [Deferred.ofValue] using hinv
    · refine Dx (Calls.mono hruns ?_)
      rintro e w3 ⟨v,rfl,res,os',θ',M',hRr,hS3,hres,hlv,hk3,hth,hM3⟩
      obtain ⟨k',hk',hbusy,hQ⟩:=hR res os' hRr hS3.cl
      have hlt':∀ i,(T tm i).lives os':=fun i=>by
        rcases Pu tm i with e | ⟨j,e⟩
        · rw [e]; exact AV.lives_undef _
        · exact AO.lives_loop.1 (hS3.cl.2 bd _ hk') j _ e
      have hback:=hnew.back (fun b hb=>(hblk b hb).2) hS3 hk3 (t':=T tm) (fun i=>(htm i).imp id (fun e=>⟨e,fun n hn=>hth n (by
        have h1:=hnew.cl.1 i n hn
        cases Nat.lt_or_ge n (bd+1) with
        | inl h=>exact h
        | inr h=>
          have h1:(upd st.o bd (some (.loop ⟨N,ps.toList,assign,body,.ready,none⟩ tm)) n).isSome=true:=h1
          rw [hbd1 n h] at h1; cases h1) (fun hm=>by have:=hts i n hm; rw [e] at this; have hn:(st.t i).clean n=false:=hn; rw [this] at hn; cases hn)⟩)) hlt'
      have hback2:=hback.defers (Aih w.heap.size :: a.defers)
      obtain ⟨_,rec3,hrec3,q1,q2,_⟩:=hback.loopAt (nl:=bd) hk'
      obtain ⟨hput,hkput⟩:=hback2.loopPut (nl:=bd) hk' hrec3 .exhausted rec3.pending
      have ebd:(θ' bd).blk=w.heap.size+1:=by rw [hth bd (by omega) hmb]; simp
      rw [ebd] at hrec3 hput hkput
      refine ⟨rec3.pending,_,run_endLoop hrec3 (by rw [q1]; exact hbusy),?_⟩
      have hput':Aq N B S θ' (fun b=>M' b∧(b < w1.heap.size→((M b∨b=w.heap.size)∨(false=false∧b=w.heap.size+1)))) (w3.putObj (w.heap.size+1) (.loop { rec3 with state:=.exhausted })) ⟨T tm,upd os' bd (some (.loop { k' with state:=.exhausted } tm))⟩ { a with defers:=Aih w.heap.size :: a.defers }:=by
        rw [show ({ k' with state:=LoopState.exhausted,pending:=rec3.pending }:F8)={ k' with state:=.exhausted } by rw [q2]] at hput
        exact hput
      have hfind:Aqk r N B S θ M w a ⟨T tm,upd os' bd (some (.loop { k' with state:=.exhausted } tm))⟩ { a with defers:=Aih w.heap.size :: a.defers } (w3.putObj (w.heap.size+1) (.loop { rec3 with state:=.exhausted })):=by
        refine ⟨θ',_,hput',?_,fun n hn hv=>(hth n (by omega) (fun hm=>(hmv n hm).elim hv (fun h=>by omega))).trans (Ay (by omega)),fun b hb hm hn=>⟨hM3 b (by have:=hs.base; omega) (.inl (.inl hm)) (fun h=>(hblk b h).2.2.elim (fun e=>by omega) hn),fun _=>.inl (.inl hm)⟩,[w.heap.size],rfl,by simp,fun D hd=>?_⟩
        · refine hkD.trans (hkL.trans (A8.trans (hk3.mono (M':=fun b=>B≤b∨S b) (fun b hb=>hb.elim (fun h=>.inl (by have:=hs.base; omega)) (fun h=>(hblk b h).2.2))) hkput (fun _ _ h=>h)) (fun _ _ h=>h)) (fun _ _ h=>h)
        · simp only [List.mem_singleton] at hd
          subst hd
          refine ⟨?_,⟨hM3 _ (by omega) (.inl (.inr rfl)) (fun h=>(hblk _ h).1 rfl),fun _=>.inl (.inr rfl)⟩,hs.base,fun n o hn hnil eb=>?_⟩
          · rw [World.putObj_heap_other (by omega),hk3.same _ (by omega) (fun e=>e.elim (fun e=>by omega) (fun e=>(hblk _ e).1 rfl)),hk1 _ (by omega)]
            exact hDat
          · have hn2:∃ o2,os' n=some o2:=by
              by_cases e:n=bd
              · subst e; exact ⟨_,hk'⟩
              · have hn:upd os' bd _ n=some o:=hn
                rw [Ar e] at hn; exact ⟨o,hn⟩
            obtain ⟨o2,hn2⟩:=hn2
            obtain ⟨_,h6⟩:=hS3.lv n o2 hn2 hnil
            rcases h6 with h6 | h6
            · rw [eb] at h6; omega
            · exact (hblk _ h6).1 eb
      rw [q2] at hfind ⊢
      cases hpd:k'.pending with
      | none=>rw [hpd] at hQ hfind; exact ⟨.normal,_,rfl,hQ,hfind⟩
      | some c=>
        rw [hpd] at hQ hfind
        cases c with
        | ret=>exact wpIn_ret ⟨.ret,_,rfl,hQ,hfind⟩
        | exit i=>exact wpIn_exit ⟨.exit i,_,rfl,hQ,hfind⟩
        | _=>exact hQ.elim
theorem Mg {g:Operand} {ps:Array Tmp} {assign body:Code} {bd f:Nat} {fs cs:List AV} {tm:List (Nat × AV)} {R:AV→(Nat→Option AO)→Prop} (hro:r.rd=none) (hbd:∀ n,bd≤n→st.o n=none) (hb:r.b≤bd) (hg:ev st.t g=.fn (.func f) fs cs) (hcal:A7 P f=true)
    (htm:∀ i,T tm i=.undef∨T tm i=st.t i) (htm':∀ (j:Nat) (p:Nat × AV),tm[j]?=some p→p.2=.undef∨p.2=st.t p.1)
    (hcall:Bg P (bd+1) (ev st.t g) [.yld bd] (upd st.o bd (some (.loop ⟨N,ps.toList,assign,body,.ready,none⟩ tm))) R)
    (hR:∀ res os',R res os'→(Hp os').closed→∃ k',os' bd=some (.loop k' tm)∧k'.state≠.busy ∧
      (match k'.pending with
       | none=>Q .normal ⟨T tm,upd os' bd (some (.loop { k' with state:=.exhausted } tm))⟩
       | some .ret=>Q .ret ⟨T tm,upd os' bd (some (.loop { k' with state:=.exhausted } tm))⟩
       | some (.exit i)=>Q (.exit i) ⟨T tm,upd os' bd (some (.loop { k' with state:=.exhausted } tm))⟩
       | _=>False)):Ey P r N (.rangeFunc g ps assign body) st Q:=
  S8 (mv:=fun _=>False) (fun _ h=>h.elim) (fun h=>h) hro hbd hb hg hcal htm htm' (fun _ _ h=>h.elim) hcall hR
end
section
variable {P:Program} {r:RB} {N B:Nat} {S:Nat→Prop} {θ:Nat→Loc} {M:Nat→Prop} {w:World} {st:St} {a:Act} {Q:AEx→St→Prop}
theorem Aq.putD (h:Aq N B S θ M w st a) {D:Nat} (hM:M D) (hap:∀ n o,st.o n=some o→(θ n).nil=false→(θ n).blk≠D) (x:Obj):Aq N B S θ M (w.putObj D x) st a:=by
 have hk:∀ b,b≠D→(w.putObj D x).heap[b]?=w.heap[b]?:=fun b hb=>World.putObj_heap_other hb
 have hw:∀ b,b < w.heap.size→¬ M b→(w.putObj D x).heap[b]?=w.heap[b]?:=fun b _ hm=>hk b (fun e=>hm (e ▸ hM))
 exact ⟨h.size,fun i=>(h.tm i).mono hw (fun _ _ h=>h),fun n o hn=>(h.ob n o hn).mono (fun hnil=>hk _ (hap n o hn hnil)) (fun y v hr _=>hr.mono hw (fun _ _ h=>h)) (fun y v hp=>hp.mono hw (fun _ _ h=>h)),
  h.lv,h.inj,by simpa using h.base,by simpa using h.mlt,h.cl⟩
theorem Lg {fn:Func} {tmps:Array Value} {R:Ending→World→Prop} {v:Value}:∀ (L:List Nat) (w:World),L.Nodup→(∀ D ∈ L,w.heap[D]?=some (.deferred (some []))) →
  (results fn tmps).run P (L.foldl (fun w D=>w.putObj D (.deferred none)) w)=.ok v (L.foldl (fun w D=>w.putObj D (.deferred none)) w)→R (.returned v) (L.foldl (fun w D=>w.putObj D (.deferred none)) w) →
  LeavesInM (Wd none) 0 P fn tmps R (L.map Aih) .returning w
 | [],w,_,_,h1,h2=>⟨v,h1,h2⟩
 | D :: L,w,hnd,hD,h1,h2=>by
  refine ⟨by simp,.inl ⟨D,_,rfl,run_takeDeferred (hD D (by simp)),?_⟩⟩
  rw [List.nodup_cons] at hnd
  refine Lg L _ hnd.2 (fun D' hD'=>?_) h1 h2
  have hne:D'≠D:=fun e=>hnd.1 (by rw [← e]; exact hD')
  rw [World.putObj_heap_other hne]
  exact hD D' (by simp [hD'])
theorem Aq.putDs:∀ (L:List Nat) {w:World},Aq N B S θ M w st a→(∀ D ∈ L,M D∧B≤D∧∀ n o,st.o n=some o→(θ n).nil=false→(θ n).blk≠D) →
  Aq N B S θ M (L.foldl (fun w D=>w.putObj D (.deferred none)) w) st a∧A8 (fun b=>B≤b∨S b) w (L.foldl (fun w D=>w.putObj D (.deferred none)) w)
 | [],w,h,_=>⟨h,A8.refl _ _⟩
 | D :: L,w,h,hD=>by
  obtain ⟨h1,h2,h3⟩:=hD D (by simp)
  obtain ⟨g1,g2⟩:=Aq.putDs L (h.putD h1 h3 (.deferred none)) (fun D' hD'=>hD D' (by simp [hD']))
  refine ⟨g1,A8.trans ⟨by simp,fun b _ hb=>World.putObj_heap_other (fun e=>hb (.inl (e ▸ h2))),rfl,rfl,rfl⟩ g2 (fun _ _ h=>h)⟩
theorem Abv {f:FuncId} {args:Array Value} {R:Ending→World→Prop} (h:CallsIn (Wd none) 0 P f args w R):Calls P f args w R:=(callsIn_wide (n:=0)).1 h
theorem Wq {mv:Nat→Prop} {f:FuncId} {fn:Func} {body:Code} {bd:Nat} {v q:List Nat} {fs args cs:List AV} {os:Nat→Option AO} {R:AV→(Nat→Option AO)→Prop} (hf:P.funcs[f]?=some fn) (hb:fn.body=some body) (hcal:A7 P f=true)
  (h:(Hp os).closed→(∀ n,bd≤n→os n=none)→Ey P ⟨⟨none,mv⟩,bd,v,q⟩ fn.ntmps body ⟨fun i=>(fs++args++cs).getD i .undef,os⟩ (Agc P fn.results.toList R)):Gn P mv bd (.fn (.func f) fs cs) args os R:=by
 intro hfree S θ M w vf vs hH hfv hsz hargs hlf hla
 cases hfv with
 | fn _ _ _ vfs vcs h1 h2 g1 g2=>
  refine ⟨_,Ec hcal,?_⟩
  obtain ⟨e1,e2⟩:=Rt h1 hsz h2 g1 hargs g2
  obtain ⟨l1,l2⟩:=F2 hlf
  have h0:=hH.start (fn:=fn) e1 e2 (U0 l1 hla l2)
  refine Abv (callsIn_of_wp_marks hf hb trivial ?_ rfl)
  refine wpIn_mono (h hH.cl hfree _ S θ M w _ h0) ?_
  rintro e a' w' ⟨ae,st',rfl,hr,θ',M',hs',hk,ht,hm,L,hL,hnd,hD⟩
  obtain ⟨hs2,hk2⟩:=hs'.putDs L (fun D hd=>⟨(hD D hd).2.1,(hD D hd).2.2.1,(hD D hd).2.2.2⟩)
  have key:Ado P fn.results.toList R st'→LeavesInM (Wd none) 0 P fn a'.tmps (fun e w'=>∃ v,e=.returned v∧Y2 mv S bd θ M w R v w') a'.defers .returning w':=by
   rintro ⟨res,os',hrr,hsub,hcl,hlv,hR⟩
   obtain ⟨v,hv,hvr⟩:=Y3 hs2 hrr
   rw [hL]
   simp only [List.append_nil]
   exact Lg L w' hnd (fun D hd=>(hD D hd).1) hv ⟨v,rfl,res,os',θ',M',hR,hs2.hp hsub hcl,hvr,hlv,hk.trans hk2 (fun _ _ h=>h),ht,hm⟩
  cases ae with
  | normal=>exact key hr
  | ret=>exact key hr
  | exit i=>exact hr.elim
theorem Aep {st:St} (hs:Aq N B S θ M w st a) {M0:Nat→Prop} (h0:∀ b,M0 b→b < B) (hS:∀ b,¬ S b):L4 st θ M0:=fun n o hn hnil hb=>by
 have h1:=(hs.lv n o hn hnil).2
 have h2:=h0 _ hb
 rcases h1 with h1 | h1
 ·omega
 ·exact hS _ h1
theorem Xc {f:FuncId} {fn:Func} {body:Code} {v q:List Nat} {args:List AV} {res:AV} (hf:P.funcs[f]?=some fn) (hb:fn.body=some body) (hargs:args.all AV.isP=true)
  (h:Ey P ⟨⟨none,fun _=>False⟩,0,v,q⟩ fn.ntmps body (St.init args) (fun e s=>(e=.normal∨e=.ret)∧(C6 P s fn.results.toList).map Df=some res)) (hres:res.isP=true):Bt P f args res:=by
 refine ⟨hres,fun θ M w vs hM hsz hrel=>?_⟩
 refine Abv (callsIn_of_wp_marks hf hb trivial ?_ rfl)
 have hH:Aq 0 w.heap.size (fun _=>False) θ M w (Hp fun _=>none) a0:=
  ⟨Nat.zero_le _,fun _=>.undef _,(fun n o hn=>by cases hn),(fun n o hn=>by cases hn),(fun n m hn=>by cases hn),Nat.le_refl _,hM,⟨fun _=>AV.lives_undef _,(fun m o hm=>by cases hm)⟩⟩
 have h0:=hH.start (fn:=fn) hsz hrel (fun i x hx=>A5 _ (List.all_eq_true.1 hargs x (List.mem_of_getElem? hx)))
 refine wpIn_mono (h _ _ θ M w _ h0) ?_
 rintro e a' w' ⟨ae,st',rfl,⟨hae,hr⟩,θ',M',hs',hk,ht,hm,L,hL,hnd,hD⟩
 obtain ⟨ys,hys,rfl⟩:=Option.map_eq_some_iff.1 hr
 obtain ⟨hs2,hk2⟩:=hs'.putDs L (fun D hd=>⟨(hD D hd).2.1,(hD D hd).2.2.1,(hD D hd).2.2.2⟩)
 have hoth:L4 st' θ' M:=Aep hs2 hM (fun _ h=>h)
 obtain ⟨us,hus,hul,hur⟩:=Mi (P:=P) hs2 (M2:=M) (fun b hb=>hm b (hM b hb) hb (fun h=>h)) hoth hys
 have hrun:∃ v,(results fn a'.tmps).run P (L.foldl (fun w D=>w.putObj D (.deferred none)) w')=.ok v (L.foldl (fun w D=>w.putObj D (.deferred none)) w')∧Al θ' M (L.foldl (fun w D=>w.putObj D (.deferred none)) w') (Df ys) v:=by
  have hus':(fn.results.mapM (Ha a'.tmps)).run P (L.foldl (fun w D=>w.putObj D (.deferred none)) w')=.ok us.toArray (L.foldl (fun w D=>w.putObj D (.deferred none)) w'):=by
   rw [Array.mapM_eq_mapM_toList,Sem.run_map,hus]; rfl
  rw [Lz]
  simp only [Sem.run_bind,hus',Result.andThen_ok,Sem.run_pure]
  match ys,us,hul with
  | [y],[u],_=>exact ⟨u,rfl,by simpa [Df] using (hur 0 y (by simp)).1⟩
  | [],[],_=>exact ⟨.tuple #[],rfl,.tup [] #[] rfl (fun i x h=>by simp at h)⟩
  | y1 :: y2 :: ys',u1 :: u2 :: us',hul=>exact ⟨.tuple (u1 :: u2 :: us').toArray,rfl,.tup _ _ (by simpa using hul) (fun i x hx=>by simpa [Array.getD_eq_getD_getElem?] using (hur i x hx).1)⟩
 obtain ⟨v,hv,hvr⟩:=hrun
 have hpost:LeavesInM (Wd none) 0 P fn a'.tmps (fun e w'=>∃ v,e=.returned v∧Al θ M w' (Df ys) v∧A8 (fun b=>w.heap.size≤b) w w') a'.defers .returning w':=by
  rw [hL]
  simp only [List.append_nil]
  exact Lg L w' hnd (fun D hd=>(hD D hd).1) hv ⟨v,rfl,hvr.nameless θ hres,(hk.trans hk2 (fun _ _ h=>h)).mono (fun b hb=>hb.elim id False.elim)⟩
 rcases hae with rfl | rfl
 ·exact hpost
 ·exact hpost
end
def Ahp (P:Program) (f:FuncId) (args:List AV) (res:AV):Prop:=
 res.isP=true∧∀ (θ:Nat→Loc) (M:Nat→Prop) (w:World) (vs:Array Value),(∀ b,M b→b < w.heap.size)→vs.size=args.length→(∀ (i:Nat) (x:AV),args[i]?=some x→Al θ M w x (vs.getD i undef)) →
  Calls P f vs w fun e w'=>∃ v,e=.returned v∧Al θ (fun b=>b < w.heap.size) w' res v∧A8 (fun b=>w.heap.size≤b) w w'
def PV.isVal:PV→Bool
 | .val _=>true
 | _=>false
def Aht (B:Nat) (os:Nat→Option AO):AV→Option AV
 | .p (.val (.slice none 0 0))=>some (.p (.sl []))
 | .p (.val v)=>some (.p (.val v))
 | .own n len=>match os n with
  | some (.arr _ es)=>if len≤es.length∧B≤n∧(es.all fun e=>e.all PV.isVal)=true then some (.p (.sl (es.take len))) else none
  | _=>none
 | _=>none
section
variable {P:Program} {r:RB} {N B:Nat} {S:Nat→Prop} {θ:Nat→Loc} {M M2:Nat→Prop} {w:World} {st:St} {a:Act} {Q:AEx→St→Prop}
theorem Cj.isVal {x:PV} {v:Value} (h:Cj M w x v) (hx:x.isVal=true) (M':Nat→Prop) (w':World):Cj M' w' x v:=by
 cases h with
 | val v h=>exact .val v h
 | _=>simp [PV.isVal] at hx
theorem Ab9 {K:St→Prop} {o:Oper} {c:Call} {f:FuncId} (ho:o.op=.call c) (hd:∀ k,o.dst=some k→k < N) (hc:c.callee=.value (.func f)) (hf:A7 P f=true) {args:List AV} (hargs:Dg st.o (c.args.toList.map (ev st.t))=some args) {res:AV} (hcall:Ahp P f args res)
  (h:K (st.put o.dst res)):B4 P r N o st K:=by
 intro B S θ M w a Q hsr
 refine ⟨fun _ _=>trivial,?_⟩
 rw [Oper.semAt_eq _ _ _ (by rw [ho]; intro c h; cases h),Uz ho hc hf]
 refine ⟨fun h=>by simp [Wd] at h,Dx ?_⟩
 obtain ⟨hl,hg⟩:=Ls hargs
 have hval:∀ (i:Nat) (z:Operand),c.args.toList[i]?=some z→(c.args.map a.eval).getD i undef=a.eval z:=fun i z hz=>by
  have:c.args[i]?=some z:=by simpa using hz
  simp [Array.getD_eq_getD_getElem?,this]
 refine Calls.mono (hcall.2 θ (Ng st θ M) w (c.args.map a.eval) (fun b hb=>hsr.mlt b hb.1) (by rw [hl]; simp) (fun i y hy=>?_)) ?_
 ·obtain ⟨x,hx,hv⟩:=hg i y hy
  simp only [List.getElem?_map,Option.map_eq_some_iff] at hx
  obtain ⟨z,hz,rfl⟩:=hx
  rw [hval i z hz]
  exact (K0 hsr (M2:=Ng st θ M) (fun b hb=>hb.1) (fun n o hn hnil hb=>hb.2 ⟨n,o,hn,hnil,rfl⟩) (Am hsr z) hv).1
 ·rintro e w' ⟨v,rfl,hr,hk⟩
  have hsr':=hsr.ext hk
  exact ⟨_,h,⟨θ,M,hsr'.put hd (hr.mono (fun _ _ _=>rfl) (fun b _ hb=>hsr.mlt b hb)) (A5 _ hcall.1),⟨hk.size,fun b hb hn=>hk.same b hb (by omega),hk.os,hk.tape,hk.output⟩,fun _ _ _=>rfl,fun _ _ h _=>h⟩,by cases o.dst <;> rfl⟩
end
def H0 (P:Program) (f:FuncId) (args:List AV) (k:Nat) (es:List (List PV)):Prop:=
 ∀ (θ:Nat→Loc) (M:Nat→Prop) (w:World) (vs:Array Value),(∀ b,M b→b < w.heap.size)→vs.size=args.length→(∀ (i:Nat) (x:AV),args[i]?=some x→Al θ M w x (vs.getD i undef)) →
  Calls P f vs w fun e w'=>∃ v l,e=.returned v∧A8 (fun b=>w.heap.size≤b) w w'∧(l.nil=false→w.heap.size≤l.blk∧l.blk < w'.heap.size)∧(∀ θ' M',Lu θ' M' w' l (.arr k es))∧(l.nil=true→v=.slice none 0 0)∧(l.nil=false→v=.slice (some ⟨l.blk,0,none⟩) es.length l.cap)
def Sn (k:Nat) (os:Nat→Option AO):AV→Option (List (List PV))
 | .p (.val (.slice none 0 0))=>some []
 | .own n len=>match os n with
  | some (.arr k' es)=>if k'=k∧len=es.length∧(es.all fun e=>e.all PV.isVal)=true then some es else none
  | _=>none
 | _=>none
section
variable {P:Program} {r:RB} {N B:Nat} {S:Nat→Prop} {θ:Nat→Loc} {M:Nat→Prop} {w:World} {st:St} {a:Act} {Q:AEx→St→Prop}
theorem Aae {f:FuncId} {fn:Func} {body:Code} {v q:List Nat} {args:List AV} {k:Nat} {es:List (List PV)} {i:Nat} (hf:P.funcs[f]?=some fn) (hb:fn.body=some body) (hi:fn.results.toList=[.tmp i]) (hargs:args.all AV.isP=true)
  (h:AWP P ⟨⟨none,fun _=>False⟩,0,v,q⟩ fn.ntmps body (St.init args) (fun e s=>(e=.normal∨e=.ret)∧Sn k s.o (s.t i)=some es)):H0 P f args k es:=by
 intro θ M w vs hM hsz hrel
 refine calls_of_wp hf hb ((wpIn_wide (n:=0)).1 ?_)
 have hH:Aq 0 w.heap.size (fun _=>False) θ M w (Hp fun _=>none) a0:=
  ⟨Nat.zero_le _,fun _=>.undef _,(fun n o hn=>by cases hn),(fun n o hn=>by cases hn),(fun n m hn=>by cases hn),Nat.le_refl _,hM,⟨fun _=>AV.lives_undef _,(fun m o hm=>by cases hm)⟩⟩
 have h0:=hH.start (fn:=fn) hsz hrel (fun i x hx=>A5 _ (List.all_eq_true.1 hargs x (List.mem_of_getElem? hx)))
 refine wpIn_mono (h _ _ θ M w _ h0) ?_
 rintro e a' w' ⟨ae,st',rfl,⟨hae,hr⟩,⟨θ',M',hs',hk,ht,hm⟩,hd⟩
 have hrr:(results fn a'.tmps).run P w'=.ok (a'.tmps.getD i undef) w':=by
  have hus':(fn.results.mapM (Ha a'.tmps)).run P w'=.ok #[a'.tmps.getD i undef] w':=by
   rw [Array.mapM_eq_mapM_toList,Sem.run_map,hi]
   simp [Ha]
  rw [Lz]
  simp only [Sem.run_bind,hus',Result.andThen_ok,Sem.run_pure]
  rfl
 have hpost:∃ v,(results fn a'.tmps).run P w'=.ok v w'∧∃ v' l,Ending.returned v=.returned v'∧A8 (fun b=>w.heap.size≤b) w w'∧(l.nil=false→w.heap.size≤l.blk∧l.blk < w'.heap.size)∧(∀ θ' M',Lu θ' M' w' l (.arr k es))∧(l.nil=true→v'=.slice none 0 0)∧(l.nil=false→v'=.slice (some ⟨l.blk,0,none⟩) es.length l.cap):=by
  have hv:=hs'.tm i
  generalize hx:st'.t i=x at hv hr
  unfold Sn at hr
  split at hr
  ·cases hr
   refine ⟨_,hrr,_,⟨0,0,true⟩,rfl,hk.mono (fun b hb=>hb.elim id False.elim),(fun hnil=>by cases hnil),(fun θ2 M2=>⟨fun i e he=>by simp at he,.inl ⟨rfl,rfl⟩⟩),(fun _=>?_),(fun hnil=>by cases hnil)⟩
   generalize a'.tmps.getD i undef=v at hv
   cases hv with
   | p _ _ h=>cases h with
    | val _ _=>rfl
  ·rename_i n len
   split at hr
   ·rename_i k' es' hn
    split at hr
    ·rename_i hc
     cases hr
     obtain ⟨rfl,hlen,hall⟩:=hc
     rw [← hlen]
     refine ⟨_,hrr,_,θ' n,rfl,hk.mono (fun b hb=>hb.elim id False.elim),fun hnil=>?_,fun θ2 M2=>?_,fun hnil=>?_,fun hnil=>?_⟩
     ·obtain ⟨h1,h2⟩:=hs'.lv n _ hn hnil
      exact ⟨h2.elim id False.elim,hs'.mlt _ h1⟩
     ·obtain ⟨hkk,hob⟩:=hs'.ob n _ hn
      refine ⟨hkk,hob.imp id (fun ⟨q1,q2,cur,e,q3,q4,q5,q6⟩=>⟨q1,q2,cur,e,q3,q4,q5,fun i e' j x hi hj=>?_⟩)⟩
      have h1:=List.all_eq_true.1 hall e' (List.mem_of_getElem? hi)
      have h2:=List.all_eq_true.1 h1 x (List.mem_of_getElem? hj)
      exact (q6 i e' j x hi hj).isVal h2 _ _
     ·generalize a'.tmps.getD i undef=v at hv
      cases hv with
      | own _ _ h0 _=>rw [hnil] at h0; cases h0
      | ownNil _ h0=>rfl
     ·generalize a'.tmps.getD i undef=v at hv
      cases hv with
      | own _ _ h0 _=>rfl
      | ownNil _ h0=>rw [hnil] at h0; cases h0
    ·cases hr
   ·cases hr
  ·cases hr
 rcases hae with rfl | rfl
 ·exact ⟨hd,hpost⟩
 ·exact ⟨hd,hpost⟩
theorem Abp {K:St→Prop} {o:Oper} {c:Call} {f:FuncId} (ho:o.op=.call c) {d:Nat} (hdst:o.dst=some d) (hd:d < N) (hc:c.callee=.value (.func f)) (hf:A7 P f=true) {args:List AV} (hargs:Dg st.o (c.args.toList.map (ev st.t))=some args) {k:Nat} {es:List (List PV)} (hcall:H0 P f args k es)
  (hfree:st.o (r.b+d)=none) (h:K ((st.setO (r.b+d) (.arr k es)).put o.dst (.own (r.b+d) es.length))):B4 P r N o st K:=by
 intro B S θ M w a Q hsr
 refine ⟨fun _ _=>trivial,?_⟩
 rw [Oper.semAt_eq _ _ _ (by rw [ho]; intro c h; cases h),Uz ho hc hf]
 refine ⟨fun h=>by simp [Wd] at h,Dx ?_⟩
 obtain ⟨hl,hg⟩:=Ls hargs
 have hval:∀ (i:Nat) (z:Operand),c.args.toList[i]?=some z→(c.args.map a.eval).getD i undef=a.eval z:=fun i z hz=>by
  have:c.args[i]?=some z:=by simpa using hz
  simp [Array.getD_eq_getD_getElem?,this]
 refine Calls.mono (hcall θ (Ng st θ M) w (c.args.map a.eval) (fun b hb=>hsr.mlt b hb.1) (by rw [hl]; simp) (fun i y hy=>?_)) ?_
 ·obtain ⟨x,hx,hv⟩:=hg i y hy
  simp only [List.getElem?_map,Option.map_eq_some_iff] at hx
  obtain ⟨z,hz,rfl⟩:=hx
  rw [hval i z hz]
  exact (K0 hsr (M2:=Ng st θ M) (fun b hb=>hb.1) (fun n o hn hnil hb=>hb.2 ⟨n,o,hn,hnil,rfl⟩) (Am hsr z) hv).1
 ·rintro e w' ⟨v,l,rfl,hk,hblk,hob,hn1,hn2⟩
  have hnew:=hsr.new (d:=r.b+d) hfree (w':=w') (l:=l) (o:=.arr k es) hk.size (fun b hb=>hk.same b hb (by omega)) hblk (hob _ _) (AO.lives_arr _ _ _)
  have hvr:Al (Db θ (r.b+d) l) (fun b=>M b∨(l.nil=false∧b=l.blk)) w' (.own (r.b+d) es.length) v:=by
   obtain ⟨_,ho2⟩:=hob θ M
   rcases ho2 with ⟨h1,h2⟩ | ⟨h1,h2,_⟩
   ·rw [hn1 h1,h2]
    exact .ownNil _ (by simpa using h1)
   ·rw [hn2 h1]
    have:=Al.own (θ:=Db θ (r.b+d) l) (M:=fun b=>M b∨(l.nil=false∧b=l.blk)) (w:=w') (r.b+d) es.length (by simpa using h1) (by simpa using h2)
    simpa using this
  refine ⟨_,h,⟨_,_,hnew.put (d:=o.dst) (fun j hj=>by rw [hdst] at hj; cases hj; exact hd) hvr (fun n hn=>?_),⟨hk.size,fun b hb hn=>hk.same b hb (by omega),hk.os,hk.tape,hk.output⟩,fun n hn _=>Ay (by omega),fun b _ hb _=>.inl hb⟩,by cases o.dst <;> rfl⟩
  simp only [AV.clean,bne_eq_false_iff_eq] at hn
  subst hn
  show (upd st.o (r.b+d) (some (.arr k es)) (r.b+d)).isSome=true
  simp
end
def D7:Value→Bool
 | .agg cs=>cs.toList.all Value.oneCell'
 | .tuple _=>false
 | v=>v.oneCell'
def Gb (n:Nat) (g:List Int→Value):Obj→Prop:=fun o=>∃ es clock,o=.map es clock∧∀ e ∈ es.toList,∃ ks:List Int,ks.length=n∧ks.all inR=true∧e.key=.agg (ks.map (Value.int .i64)).toArray∧e.val=g ks
def La (P:Program) (k:TypeId) (n:Nat):Prop:=WideMaps.KeyLaw P k∧∀ ks:List Int,ks.length=n→ks.all inR=true→∃ l,keyOf P k (.agg (ks.map (Value.int .i64)).toArray)=some l
theorem Ac1 {a b:List Int} (h:(Value.agg (a.map (Value.int .i64)).toArray)=.agg (b.map (Value.int .i64)).toArray):a=b:=by
 simp only [Value.agg.injEq] at h
 have h:=congrArg Array.toList h
 simp only at h
 exact (List.map_inj_right (fun x y e=>by cases e; rfl)).1 h
section
variable {P:Program} {r:RB} {N B:Nat} {S:Nat→Prop} {θ:Nat→Loc} {M:Nat→Prop} {w:World} {st:St} {a:Act} {o:Oper} {K:St→Prop}
theorem G1 {cs:Array Value} (h:cs.toList.all Value.oneCell'=true):Bc (.agg cs)=.agg (cs.toList.map fun c=>.p (.val c)):=by
 unfold Bc; simp only [h,if_true]
theorem Pw {v:Value} (h:D7 v=true):(∃ cs,v=.agg cs∧cs.toList.all Value.oneCell'=true)∨(Bc v=.p (.val v)∧v.oneCell'=true):=by
 cases v <;> first | exact .inr ⟨rfl,h⟩ | exact .inl ⟨_,rfl,h⟩ | cases h
theorem Abi {v:Value} (h:D7 v=true):Al θ M w (Bc v) v:=by
 rcases Pw h with ⟨cs,rfl,h⟩ | ⟨e,h1⟩
 ·rw [G1 h]
  refine .agg _ cs (by simp) (fun i hi=>?_) (fun i x hx=>?_)
  ·have hi:i < cs.size:=by simpa using hi
   have:=List.all_eq_true.1 h cs[i] (by simp)
   simpa [Array.getD_eq_getD_getElem?,hi] using this
  ·rw [List.getElem?_map,Option.map_eq_some_iff] at hx
   obtain ⟨c,hc,rfl⟩:=hx
   have h1:=List.all_eq_true.1 h c (List.mem_of_getElem? hc)
   have h2:cs.getD i undef=c:=by
    have:cs[i]?=some c:=by simpa using hc
    simp [Array.getD_eq_getD_getElem?,this]
   rw [h2]; exact .p _ _ (.val _ h1)
 ·rw [e]; exact .p _ _ (.val _ h1)
theorem Ez {v:Value} {os:Nat→Option AO} (h:D7 v=true):(Bc v).lives os:=by
 rcases Pw h with ⟨cs,rfl,h⟩ | ⟨e,h1⟩
 ·rw [G1 h]
  refine AV.lives_agg.2 fun i x hx=>?_
  rw [List.getElem?_map,Option.map_eq_some_iff] at hx
  obtain ⟨c,_,rfl⟩:=hx
  exact AV.lives_p _ _
 ·rw [e]; exact AV.lives_p _ _
theorem Abf {u v:Value} (h:D7 u=true) (hr:Al θ M w (Bc u) v):v=u:=by
 rcases Pw h with ⟨cs,rfl,h⟩ | ⟨e,h1⟩
 ·rw [G1 h] at hr
  cases hr with
  | agg _ vs hs ho hx=>
   congr 1
   refine Array.ext (by simpa using hs) fun i h1 h2=>?_
   have:=hx i (.p (.val cs[i])) (by simp [h2])
   have e:vs.getD i undef=vs[i]:=by simp [Array.getD_eq_getD_getElem?,h1]
   rw [e] at this
   generalize vs[i]=y at this
   cases this with
   | p _ _ hp=>cases hp; rfl
 ·rw [e] at hr
  cases hr with
  | p _ _ hp=>cases hp; rfl
theorem Wz {t:TypeId} {dd n:Nat} {g:List Int→Value} (ho:o.op=.makeMap t none) (hd:o.dst=some dd) (hN:dd < N) (hfree:st.o (r.b+dd)=none)
  (h:K ((st.setO (r.b+dd) (.obj (Gb n g))).put o.dst (.mp (r.b+dd)))):B4 P r N o st K:=by
 intro B S θ M w a Q hs
 refine ⟨fun _ _=>trivial,?_⟩
 rw [Oper.semAt_eq _ _ _ (by rw [ho]; intro c h; cases h)]
 have hrun:(execOp a.eval o).run P w=.ok (.value (.map (some w.heap.size))) (w.alloc (.map #[] 0)):=by
  simp [execOp,ho,Instr.makeMap]
 rw [hrun]
 have hk:∀ b,b < w.heap.size→(w.alloc (.map #[] 0)).heap[b]?=w.heap[b]?:=fun b hb=>Gi w _ hb
 have hS:=hs.new (d:=r.b+dd) hfree (w':=w.alloc (.map #[] 0)) (l:=⟨w.heap.size,0,false⟩) (o:=.obj (Gb n g)) (by simp) hk (fun _=>⟨Nat.le_refl _,by simp⟩)
  ⟨rfl,_,Gm w _,#[],0,rfl,by simp⟩ (AO.lives_obj _ _)
 refine ⟨_,h,⟨_,_,hS.put (d:=o.dst) (fun k e=>by rw [hd] at e; cases e; exact hN) (x:=.mp (r.b+dd)) (v:=.map (some w.heap.size)) ?_ ?_,A8.alloc _ _ _,fun n hn _=>Ay (by omega),fun b _ hb _=>.inl hb⟩,by cases o.dst <;> rfl⟩
 ·have:=Al.mp (θ:=Db θ (r.b+dd) ⟨w.heap.size,0,false⟩) (M:=fun b=>M b∨(false=false∧b=w.heap.size)) (w:=w.alloc (.map #[] 0)) (r.b+dd)
  simpa using this
 ·intro m hm
  simp only [AV.clean,bne_eq_false_iff_eq] at hm
  subst hm
  simp [St.setO]
theorem Nf {t k e:TypeId} (hk:(Ab P t).k=.mp k e):P.underlying t=some (.map k e):=by
 obtain ⟨i,u,hi,hu⟩:=Np hk (by intro h; cases h)
 simp only [Ab,hi,hu] at hk
 rw [hu]
 cases u <;> simp at hk
 rw [hk.1,hk.2]
theorem Aak {x:AV} {v:Value} {m:Nat} (h:Al θ M w x v) (hx:x=.mp m):v=.map (some (θ m).blk):=by subst hx; cases h; rfl
theorem Y7 {k:TypeId} {n:Nat} {g:List Int→Value} (hk:La P k n) {ks:List Int} (hl:ks.length=n) (hr:ks.all inR=true) {es:Array MapEntry} (hes:∀ e ∈ es.toList,∃ ks:List Int,ks.length=n∧ks.all inR=true∧e.key=.agg (ks.map (Value.int .i64)).toArray∧e.val=g ks) (w:World) :
  ((Instr.findKey k (.agg (ks.map (Value.int .i64)).toArray) es.toList).run P w=.ok none w)∨∃ j e,(Instr.findKey k (.agg (ks.map (Value.int .i64)).toArray) es.toList).run P w=.ok (some (j,g ks)) w∧es.toList[j]?=some e∧e.key=.agg (ks.map (Value.int .i64)).toArray:=by
 obtain ⟨l,hkl⟩:=hk.2 ks hl hr
 rcases hk.1.find w hkl es.toList (fun e he=>by
  obtain ⟨ks',h1,h2,h3,_⟩:=hes e he
  rw [h3]; exact hk.2 ks' h1 h2) with ⟨h1,_⟩ | ⟨j,e,h1,h2,h3⟩
 ·exact .inl h1
 ·obtain ⟨ks',g1,g2,g3,g4⟩:=hes e (List.mem_of_getElem? h2)
  rw [g3] at h3
  have:=Ac1 h3
  subst this
  rw [g4] at h1
  exact .inr ⟨j,e,h1,h2,g3⟩
theorem Z8 {t k e:TypeId} {x i:Operand} {m n:Nat} {g:List Int→Value} {z:Value} {cs:List AV} {ks:List Int} (ho:o.op=.lookup t x i true) (hd:∀ k,o.dst=some k→k < N) (ht:(Ab P t).k=.mp k e) (hz:∀ w,(zeroValue e).run P w=.ok z w) (hzf:D7 z=true) (hgf:D7 (g ks)=true) (hk:La P k n)
  (hx:ev st.t x=.mp m) (hm:st.o m=some (.obj (Gb n g))) (hi:ev st.t i=.agg cs) (hks:Cn cs=some ks) (hl:ks.length=n) (hr:ks.all inR=true)
  (h1:K (st.put o.dst (.tup [Bc (g ks),.p (.val (.bool true))]))) (h2:K (st.put o.dst (.tup [Bc z,.p (.val (.bool false))]))):B4 P r N o st K:=by
 intro B S θ M w a Q hs
 refine ⟨fun _ _=>trivial,?_⟩
 rw [Oper.semAt_eq _ _ _ (by rw [ho]; intro c h; cases h)]
 have hxv:=Aak (Am hs x) hx
 have hiv:=Gq (Am hs i) hi hks
 obtain ⟨_,ob,hob,es,clock,rfl,hes⟩:=hs.ob m _ hm
 have hu:P.underlying t=some (.map k e):=Nf ht
 have hchk:∀ em,(Instr.checkKey em 10000 k (.agg (ks.map (Value.int .i64)).toArray)).run P w=.ok () w:=fun em=>by
  obtain ⟨l,hkl⟩:=hk.2 ks hl hr
  exact hk.1.check w em hkl
 have fin:∀ (v:Value) (b:Bool),D7 v=true→K (st.put o.dst (.tup [Bc v,.p (.val (.bool b))]))→∃ st',K st'∧Fin r N B S θ M w a st' (a.put o.dst (.tuple #[v,.bool b])) w:=by
  intro v b hv hK
  refine ⟨_,hK,(Adv.put hs hd ?_ ?_).toM,by cases o.dst <;> rfl⟩
  ·refine .tup _ _ rfl (fun i x hx=>?_)
   cases i with
   | zero=>cases hx; exact Abi hv
   | succ i=>cases i with
    | zero=>cases hx; exact .p _ _ (.val _ rfl)
    | succ i=>simp at hx
  ·refine AV.lives_tup.2 fun i x hx=>?_
   cases i with
   | zero=>cases hx; exact Ez hv
   | succ i=>cases i with
    | zero=>cases hx; exact AV.lives_p _ _
    | succ i=>simp at hx
 rcases Y7 hk hl hr hes w with hf | ⟨j,e',hf,_,_⟩
 ·have hrun:(execOp a.eval o).run P w=.ok (.value (.tuple #[z,.bool false])) w:=by
   simp [execOp,ho,hxv,hiv,Instr.lookup,A6 hu,getObj,Sem.run,hob,hchk,hf,hz]
  rw [hrun]
  exact fin _ false hzf h2
 ·have hrun:(execOp a.eval o).run P w=.ok (.value (.tuple #[g ks,.bool true])) w:=by
   simp [execOp,ho,hxv,hiv,Instr.lookup,A6 hu,getObj,Sem.run,hob,hchk,hf]
  rw [hrun]
  exact fin _ true hgf h1
theorem Te {t k e:TypeId} {x i v:Operand} {m n:Nat} {g:List Int→Value} {cs:List AV} {ks:List Int} (ho:o.op=.mapUpdate t x i v) (hd:o.dst=none) (ht:(Ab P t).k=.mp k e) (hk:La P k n)
  (hx:ev st.t x=.mp m) (hm:st.o m=some (.obj (Gb n g))) (hi:ev st.t i=.agg cs) (hks:Cn cs=some ks) (hl:ks.length=n) (hr:ks.all inR=true) (hgf:D7 (g ks)=true) (hv:ev st.t v=Bc (g ks)) (h1:K st):B4 P r N o st K:=by
 intro B S θ M w a Q hs
 refine ⟨fun _ _=>trivial,?_⟩
 rw [Oper.semAt_eq _ _ _ (by rw [ho]; intro c h; cases h)]
 have hxv:=Aak (Am hs x) hx
 have hiv:=Gq (Am hs i) hi hks
 have hvv:a.eval v=g ks:=by have:=Am hs v; rw [hv] at this; exact Abf hgf this
 obtain ⟨hnil,ob,hob,es,clock,rfl,hes⟩:=hs.ob m _ hm
 have hu:P.underlying t=some (.map k e):=Nf ht
 have hchk:∀ em,(Instr.checkKey em 10000 k (.agg (ks.map (Value.int .i64)).toArray)).run P w=.ok () w:=fun em=>by
  obtain ⟨l,hkl⟩:=hk.2 ks hl hr
  exact hk.1.check w em hkl
 have hlt:(θ m).blk < w.heap.size:=hs.mlt _ (hs.lv m _ hm hnil).1
 have fin:∀ es' clock',(∀ e ∈ es'.toList,∃ ks:List Int,ks.length=n∧ks.all inR=true∧e.key=.agg (ks.map (Value.int .i64)).toArray∧e.val=g ks)→∃ st',K st'∧Fin r N B S θ M w a st' (a.put o.dst undef) (w.putObj (θ m).blk (.map es' clock')):=by
  intro es' clock' hes'
  have hkk:∀ b,b≠(θ m).blk→(w.putObj (θ m).blk (.map es' clock')).heap[b]?=w.heap[b]?:=fun b hb=>World.putObj_heap_other hb
  have hS:=hs.upd (o':=.obj (Gb n g)) hm hnil (by simp) hkk ⟨hnil,_,World.putObj_heap_same hlt,es',clock',rfl,hes'⟩ (AO.lives_obj _ _)
  have e9:st.setO m (.obj (Gb n g))=st:=by
   unfold St.setO
   have:upd st.o m (some (.obj (Gb n g)))=st.o:=by
    funext q; unfold upd; split
    ·rename_i hq; rw [hq,hm]
    ·rfl
   rw [this]
  rw [e9] at hS
  rw [hd]
  exact ⟨st,h1,⟨θ,M,hS,A8.of_upd hs hm hnil (by simp) hkk rfl rfl rfl,fun _ _ _=>rfl,fun _ _ h _=>h⟩,rfl⟩
 rcases Y7 hk hl hr hes w with hf | ⟨j,e',hf,hj,hkey⟩
 ·have hrun:(execOp a.eval o).run P w=.ok .skip (w.putObj (θ m).blk (.map (es.push { key:=.agg (ks.map (Value.int .i64)).toArray,val:=g ks,born:=clock }) (clock+1))):=by
   simp [execOp,ho,hxv,hiv,hvv,Instr.mapUpdate,A6 hu,getObj,setObj,Sem.run,hob,hchk,hf,World.putObj]
  rw [hrun]
  refine fin _ _ fun e he=>?_
  simp only [Array.toList_push,List.mem_append,List.mem_singleton] at he
  rcases he with he | rfl
  ·exact hes e he
  ·exact ⟨ks,hl,hr,rfl,rfl⟩
 ·have hj':es[j]?=some e':=by simpa using hj
  obtain ⟨l,hkl⟩:=hk.2 ks hl hr
  have hst:=hk.1.stays w hkl
  have hrun:(execOp a.eval o).run P w=.ok .skip (w.putObj (θ m).blk (.map (es.modify j fun e=>{ e with key:=.agg (ks.map (Value.int .i64)).toArray,val:=g ks }) clock)):=by
   simp [execOp,ho,hxv,hiv,hvv,Instr.mapUpdate,A6 hu,getObj,setObj,Sem.run,hob,hchk,hf,World.putObj,hj',hkey,hst]
  rw [hrun]
  refine fin _ _ fun e he=>?_
  obtain ⟨q,hq⟩:=List.mem_iff_getElem?.1 he
  have hq:(es.modify j fun e=>{ e with key:=.agg (ks.map (Value.int .i64)).toArray,val:=g ks })[q]?=some e:=by rw [← Array.getElem?_toList]; exact hq
  rw [Array.getElem?_modify] at hq
  split at hq
  ·cases hes2:es[q]? with
   | none=>rw [hes2] at hq; cases hq
   | some e2=>rw [hes2] at hq; cases hq; exact ⟨ks,hl,hr,rfl,rfl⟩
  ·exact hes e (by rw [List.mem_iff_getElem?]; exact ⟨q,by simpa using hq⟩)
end
def AV.frz (n:Nat) (es:List (List PV)):AV→AV
 | .p x=>.p x
 | .ptr m off=>if m=n then .undef else .ptr m off
 | .eptr m k i off=>if m=n then .undef else .eptr m k i off
 | .own m len=>if m=n then (if len≤es.length then .p (.sl (es.take len)) else .undef) else .own m len
 | .csl m off k len=>if m=n then .undef else .csl m off k len
 | .fn f fs cs=>.fn f (frzL n es fs) (frzL n es cs)
 | .yld m=>if m=n then .undef else .yld m
 | .mp m=>if m=n then .undef else .mp m
 | .agg cs=>.agg (frzL n es cs)
 | .tup cs=>.tup (frzL n es cs)
 | .undef=>.undef
 where frzL (n:Nat) (es:List (List PV)):List AV→List AV
 | []=>[]
 | x :: r=>x.frz n es :: frzL n es r
theorem Kc (n:Nat) (es:List (List PV)) (l:List AV):AV.frz.frzL n es l=l.map (AV.frz n es):=by
 induction l with
 | nil=>rfl
 | cons x l ih=>simp only [AV.frz.frzL,List.map_cons,ih]
def AO.frz (n:Nat) (es:List (List PV)):AO→AO
 | .cells cs=>.cells (cs.map (AV.frz n es))
 | .arr k e=>.arr k e
 | .obj X=>.obj X
 | .it m X=>if m=n then .obj (fun o=>∃ b,X b o) else .it m X
 | .loop k tm=>.loop k (tm.map fun p=>(p.1,p.2.frz n es))
def St.frz (n:Nat) (es:List (List PV)) (s:St):St:=⟨fun i=>(s.t i).frz n es,fun m=>if m=n then none else (s.o m).map (AO.frz n es)⟩
section
variable {P:Program} {r:RB} {N B:Nat} {S:Nat→Prop} {θ:Nat→Loc} {M M2:Nat→Prop} {w:World} {st:St} {a:Act} {Q:AEx→St→Prop} {n:Nat} {es:List (List PV)}
theorem Ra {l:List AV} {i:Nat} {y:AV} (h:(AV.frz.frzL n es l)[i]?=some y):∃ z,l[i]?=some z∧y=z.frz n es:=by
 rw [Kc,List.getElem?_map,Option.map_eq_some_iff] at h
 obtain ⟨z,h1,h2⟩:=h
 exact ⟨z,h1,h2.symm⟩
theorem Na {l:List AV}:(AV.frz.frzL n es l).length=l.length:=by rw [Kc,List.length_map]
theorem Aml {k:Nat} (hk:∀ (i:Nat) (e:List PV),es[i]?=some e→e.length=k) {l:Loc} {cur:Array Value} {e:TypeId} (hb:w.heap[l.blk]?=some (.cells cur e (0,0))) (hs:cur.size=l.cap * k) (hle:es.length≤l.cap) (hM:¬ M2 l.blk)
  (hx:∀ (i:Nat) (e:List PV) (j:Nat) (x:PV),es[i]?=some e→e[j]?=some x→Cj M2 w x (cur.getD (i * k+j) undef)) {len:Nat} (hl:len≤es.length):Cj M2 w (.sl (es.take len)) (.slice (some ⟨l.blk,0,none⟩) len l.cap):=by
 have hll:(es.take len).length=len:=by rw [List.length_take]; omega
 have:=Cj.sl (M:=M2) (w:=w) (es.take len) l.blk 0 l.cap k (fun i j=>cur.getD (i * k+j) undef) (fun i e hi=>by
  rw [List.getElem?_take] at hi
  split at hi
  ·exact hk i e hi
  ·cases hi) (by omega) (fun i e' j x hi hj=>by
  rw [List.getElem?_take] at hi
  split at hi
  ·refine ⟨hM,?_⟩
   have hj':j < k:=by rw [← hk i e' hi]; exact (List.getElem?_eq_some_iff.1 hj).1
   have hi':=(List.getElem?_eq_some_iff.1 hi).1
   have hlt:i * k+j < cur.size:=by
    rw [hs]
    have:(i+1) * k≤l.cap * k:=Nat.mul_le_mul_right _ (by omega)
    rw [Nat.add_mul] at this; omega
   rw [Nat.zero_add]
   exact Cu hb (by simp [hlt])
  ·cases hi) (fun i e' j x hi hj=>by
  rw [List.getElem?_take] at hi
  split at hi
  ·exact hx i e' j x hi hj
  ·cases hi)
 rw [hll] at this
 exact this
theorem Cj.less (h:∀ b,M2 b→M b) {x:PV} {v:Value} (hp:Cj M w x v):Cj M2 w x v:=hp.mono (fun _ _ _=>rfl) (fun b _ hb=>h b hb)
theorem Al.frz (hm:∀ b,M2 b→M b) (hO:∀ len cap v,len≤es.length→v=.slice (some ⟨(θ n).blk,0,none⟩) len cap→(θ n).nil=false→cap=(θ n).cap→Cj M2 w (.sl (es.take len)) v) {x:AV} {v:Value} (h:Al θ M w x v):Al θ M2 w (x.frz n es) v:=by
 induction h with
 | p x v h=>exact .p x v (h.less hm)
 | ptr m off=>simp only [AV.frz]; split <;> first | exact .undef _ | exact .ptr _ _
 | eptr m k i off=>simp only [AV.frz]; split <;> first | exact .undef _ | exact .eptr _ _ _ _
 | own m len h0 h=>
  simp only [AV.frz]; split
  ·rename_i e; subst e
   split
   ·rename_i hle
    exact .p _ _ (hO len _ _ hle rfl h0 rfl)
   ·exact .undef _
  ·exact .own _ _ h0 h
 | ownNil m h0=>
  simp only [AV.frz]; split
  ·rw [if_pos (Nat.zero_le _),List.take_zero]; exact .p _ _ .nil
  ·exact .ownNil _ h0
 | csl m off k len cap h=>simp only [AV.frz]; split <;> first | exact .undef _ | exact .csl _ _ _ _ _ h
 | fn f fs cs vf vc hf hcs _ _ ih1 ih2=>
  refine .fn f _ _ vf vc (by rw [Na]; exact hf) (by rw [Na]; exact hcs) (fun i x hx=>?_) (fun i x hx=>?_)
  ·obtain ⟨z,h1,rfl⟩:=Ra hx; exact ih1 i z h1
  ·obtain ⟨z,h1,rfl⟩:=Ra hx; exact ih2 i z h1
 | yld m=>simp only [AV.frz]; split <;> first | exact .undef _ | exact .yld _
 | mp m=>simp only [AV.frz]; split <;> first | exact .undef _ | exact .mp _
 | agg cs vs hs ho _ ih=>
  refine .agg _ vs (by rw [Na]; exact hs) (fun i hi=>ho i (by rwa [Na] at hi)) (fun i x hx=>?_)
  obtain ⟨z,h1,rfl⟩:=Ra hx; exact ih i z h1
 | tup cs vs hs _ ih=>
  refine .tup _ vs (by rw [Na]; exact hs) (fun i x hx=>?_)
  obtain ⟨z,h1,rfl⟩:=Ra hx; exact ih i z h1
 | undef v=>exact .undef v
mutual
theorem frz_clean:∀ (x:AV) (m:Nat),(x.frz n es).clean m=false→m≠n∧x.clean m=false
 | .p _,m,h=>by simp [AV.frz,AV.clean] at h
 | .ptr k off,m,h=>by
  simp only [AV.frz] at h; split at h
  ·simp [AV.clean] at h
  ·rename_i e; simp only [AV.clean,bne_eq_false_iff_eq] at h ⊢; subst h; exact ⟨e,rfl⟩
 | .eptr k _ _ _,m,h=>by
  simp only [AV.frz] at h; split at h
  ·simp [AV.clean] at h
  ·rename_i e; simp only [AV.clean,bne_eq_false_iff_eq] at h ⊢; subst h; exact ⟨e,rfl⟩
 | .own k len,m,h=>by
  simp only [AV.frz] at h; split at h
  ·split at h <;> simp [AV.clean] at h
  ·rename_i e; simp only [AV.clean,bne_eq_false_iff_eq] at h ⊢; subst h; exact ⟨e,rfl⟩
 | .csl k _ _ _,m,h=>by
  simp only [AV.frz] at h; split at h
  ·simp [AV.clean] at h
  ·rename_i e; simp only [AV.clean,bne_eq_false_iff_eq] at h ⊢; subst h; exact ⟨e,rfl⟩
 | .yld k,m,h=>by
  simp only [AV.frz] at h; split at h
  ·simp [AV.clean] at h
  ·rename_i e; simp only [AV.clean,bne_eq_false_iff_eq] at h ⊢; subst h; exact ⟨e,rfl⟩
 | .mp k,m,h=>by
  simp only [AV.frz] at h; split at h
  ·simp [AV.clean] at h
  ·rename_i e; simp only [AV.clean,bne_eq_false_iff_eq] at h ⊢; subst h; exact ⟨e,rfl⟩
 | .fn f fs cs,m,h=>by
  simp only [AV.frz,AV.clean,Bool.and_eq_false_iff] at h ⊢
  rcases h with h | h
  ·exact ⟨(Dn fs m h).1,.inl (Dn fs m h).2⟩
  ·exact ⟨(Dn cs m h).1,.inr (Dn cs m h).2⟩
 | .agg cs,m,h=>Dn cs m (by simpa [AV.frz,AV.clean] using h)
 | .tup cs,m,h=>Dn cs m (by simpa [AV.frz,AV.clean] using h)
 | .undef,m,h=>by simp [AV.frz,AV.clean] at h
theorem Dn:∀ (l:List AV) (m:Nat),AV.clean.cleanL m (AV.frz.frzL n es l)=false→m≠n∧AV.clean.cleanL m l=false
 | [],m,h=>by simp [AV.frz.frzL,AV.clean.cleanL] at h
 | x :: l,m,h=>by
  simp only [AV.frz.frzL,AV.clean.cleanL,Bool.and_eq_false_iff] at h ⊢
  rcases h with h | h
  ·exact ⟨(frz_clean x m h).1,.inl (frz_clean x m h).2⟩
  ·exact ⟨(Dn l m h).1,.inr (Dn l m h).2⟩
end
theorem AO.frz_clean:∀ (x:AO) (m:Nat),(x.frz n es).clean m=false→m≠n∧x.clean m=false
 | .cells cs,m,h=>by
  simp only [AO.frz,AO.clean] at h ⊢
  exact Dn cs m (by rw [Kc]; exact h)
 | .arr _ _,m,h=>by simp [AO.frz,AO.clean] at h
 | .obj _,m,h=>by simp [AO.frz,AO.clean] at h
 | .it k X,m,h=>by
  simp only [AO.frz] at h
  split at h
  ·simp [AO.clean] at h
  ·rename_i e
   simp only [AO.clean,bne_eq_false_iff_eq] at h ⊢
   exact ⟨fun e2=>e (h.trans e2),h⟩
 | .loop k tm,m,h=>by
  simp only [AO.frz,AO.clean,List.map_map] at h ⊢
  exact Dn (tm.map (·.2)) m (by rw [Kc,List.map_map]; exact h)
theorem Aq.frz (h:Aq N B S θ M w st a) {k:Nat} (hn:st.o n=some (.arr k es)):Aq N B S θ (fun b=>M b∧((θ n).nil=false→b≠(θ n).blk)) w (st.frz n es) a:=by
 obtain ⟨hk,hob⟩:=h.ob n _ hn
 have hO:∀ len cap v,len≤es.length→v=.slice (some ⟨(θ n).blk,0,none⟩) len cap→(θ n).nil=false→cap=(θ n).cap→Cj (fun b=>M b∧((θ n).nil=false→b≠(θ n).blk)) w (.sl (es.take len)) v:=by
  rintro len cap v hle rfl h0 rfl
  rcases hob with ⟨h1,_⟩ | ⟨_,hc,cur,e,hb,hs1,ho1,hx1⟩
  ·rw [h1] at h0; cases h0
  ·exact Aml hk hb hs1 hc (fun hm=>hm.2 h0 rfl) (fun i e j x hi hj=>(hx1 i e j x hi hj).less (fun _ hb=>hb.1)) hle
 have hget:∀ m o,(st.frz n es).o m=some o→m≠n∧∃ o',st.o m=some o'∧o=o'.frz n es:=fun m o ho=>by
  simp only [St.frz] at ho
  split at ho
  ·cases ho
  ·rename_i e
   obtain ⟨o',h1,h2⟩:=Option.map_eq_some_iff.1 ho
   exact ⟨e,o',h1,h2.symm⟩
 have har:∀ {x:AV} {v:Value},Al θ M w x v→Al θ (fun b=>M b∧((θ n).nil=false→b≠(θ n).blk)) w (x.frz n es) v:=fun hx=>hx.frz (fun _ hb=>hb.1) hO
 refine ⟨h.size,fun i=>har (h.tm i),fun m o ho=>?_,fun m o ho hnil=>?_,fun m1 m2 h1 h2=>?_,h.base,fun b hb=>h.mlt b hb.1,⟨fun i m hm=>?_,fun m o ho m' hm'=>?_⟩⟩
 ·obtain ⟨_,o',h1,rfl⟩:=hget m o ho
  have:=h.ob m o' h1
  cases o' with
  | cells cs=>
   obtain ⟨g0,cur,e,g1,g2,g3,g4⟩:=this
   refine ⟨g0,cur,e,g1,by simpa using g2,fun i hi=>g3 i (by simpa using hi),fun i x hx=>?_⟩
   rw [List.getElem?_map,Option.map_eq_some_iff] at hx
   obtain ⟨z,hz,rfl⟩:=hx
   exact har (g4 i z hz)
  | arr k' es'=>
   obtain ⟨g0,g1⟩:=this
   exact ⟨g0,g1.imp id (fun ⟨q1,q2,cur,e,q3,q4,q5,q6⟩=>⟨q1,q2,cur,e,q3,q4,q5,fun i e j x hi hj=>(q6 i e j x hi hj).less (fun _ hb=>hb.1)⟩)⟩
  | obj X=>exact this
  | it k X=>
   obtain ⟨g0,ob,g1,g2⟩:=this
   simp only [AO.frz]
   split
   ·exact ⟨g0,ob,g1,_,g2⟩
   ·exact ⟨g0,ob,g1,g2⟩
  | loop k' tm=>
   obtain ⟨g0,fn,tmps,D,g1,g2,g3⟩:=this
   refine ⟨g0,fn,tmps,D,g1,g2,fun i p hp=>?_⟩
   rw [List.getElem?_map,Option.map_eq_some_iff] at hp
   obtain ⟨z,hz,rfl⟩:=hp
   exact har (g3 i z hz)
 ·obtain ⟨hne,o',h1,rfl⟩:=hget m o ho
  obtain ⟨g1,g2⟩:=h.lv m o' h1 hnil
  exact ⟨⟨g1,fun h0 e=>hne (h.inj m n (by rw [h1]; rfl) (by rw [hn]; rfl) hnil h0 e)⟩,g2⟩
 ·obtain ⟨o1,g1⟩:=Option.isSome_iff_exists.1 h1
  obtain ⟨o2,g2⟩:=Option.isSome_iff_exists.1 h2
  obtain ⟨_,o1',q1,_⟩:=hget m1 o1 g1
  obtain ⟨_,o2',q2,_⟩:=hget m2 o2 g2
  exact h.inj m1 m2 (by rw [q1]; rfl) (by rw [q2]; rfl)
 ·obtain ⟨h1,h2⟩:=frz_clean _ m hm
  have:=h.cl.1 i m h2
  show (if m=n then none else (st.o m).map (AO.frz n es)).isSome=true
  rw [if_neg h1]; simpa using this
 ·obtain ⟨_,o',h1,rfl⟩:=hget m o ho
  obtain ⟨h3,h4⟩:=AO.frz_clean _ m' hm'
  have:=h.cl.2 m o' h1 m' h4
  show (if m'=n then none else (st.o m').map (AO.frz n es)).isSome=true
  rw [if_neg h3]; simpa using this
theorem Aps (h:Aq N B S θ M w st a) {k:Nat} (hn:st.o n=some (.arr k es)):∀ b,b < B→M b→¬ S b→(M b∧((θ n).nil=false→b≠(θ n).blk)):=fun b hb hm hs=>⟨hm,fun h0 e=>by
 subst e
 exact (h.lv n _ hn h0).2.elim (fun h=>by omega) hs⟩
theorem Fin.frz (h:Aq N B S θ M w st a) {k:Nat} (hn:st.o n=some (.arr k es)) {st':St} {a':Act} {w':World} (hf:Fin r N B S θ (fun b=>M b∧((θ n).nil=false→b≠(θ n).blk)) w a st' a' w'):Fin r N B S θ M w a st' a' w':=
 hf.trans (A8.refl _ _) (fun _ _ _=>rfl) (Aps h hn) rfl
theorem Aro {c:Code} {k:Nat} (n:Nat) {es:List (List PV)} (hn:st.o n=some (.arr k es)) (h:AWP P r N c (st.frz n es) Q):AWP P r N c st Q:=fun B S θ _ w a hs=>
 wpIn_mono (h B S θ _ w a (hs.frz hn)) fun _ _ _ ⟨ae,st',h1,h2,h3⟩=>⟨ae,st',h1,h2,h3.frz hs hn⟩
theorem Akm {o:Oper} {K:St→Prop} {k:Nat} (n:Nat) {es:List (List PV)} (hn:st.o n=some (.arr k es)) (h:B4 P r N o (st.frz n es) K):B4 P r N o st K:=fun B S θ _ w a Q hs=>
 Oper.wpIn_mono (fun _ _ ⟨st',h1,h2⟩=>⟨st',h1,h2.frz hs hn⟩) (h B S θ _ w a Q (hs.frz hn))
def Xf (n:Nat) (es:List (List PV)):List (Nat × AV)→List (Nat × AV)
 | []=>[]
 | (j,x) :: l=>(j,x.frz n es) :: Xf n es l
theorem Awe {l:List (Nat × AV)}:(fun i=>(T l i).frz n es)=T (Xf n es l):=by
 funext i
 induction l with
 | nil=>rfl
 | cons p l ih=>
  obtain ⟨j,x⟩:=p
  simp only [T,Xf]
  split
  ·rfl
  ·exact ih
mutual
theorem frz_id:∀ (x:AV),x.clean n=true→x.frz n es=x
 | .p _,_=>rfl
 | .ptr m _,h=>by simp only [AV.clean,bne_iff_ne] at h; simp only [AV.frz]; rw [if_neg h]
 | .eptr m _ _ _,h=>by simp only [AV.clean,bne_iff_ne] at h; simp only [AV.frz]; rw [if_neg h]
 | .own m _,h=>by simp only [AV.clean,bne_iff_ne] at h; simp only [AV.frz]; rw [if_neg h]
 | .csl m _ _ _,h=>by simp only [AV.clean,bne_iff_ne] at h; simp only [AV.frz]; rw [if_neg h]
 | .yld m,h=>by simp only [AV.clean,bne_iff_ne] at h; simp only [AV.frz]; rw [if_neg h]
 | .mp m,h=>by simp only [AV.clean,bne_iff_ne] at h; simp only [AV.frz]; rw [if_neg h]
 | .fn f fs cs,h=>by
  simp only [AV.clean,Bool.and_eq_true] at h
  simp only [AV.frz]; rw [Nx fs h.1,Nx cs h.2]
 | .agg cs,h=>by simp only [AV.frz]; rw [Nx cs (by simpa [AV.clean] using h)]
 | .tup cs,h=>by simp only [AV.frz]; rw [Nx cs (by simpa [AV.clean] using h)]
 | .undef,_=>rfl
theorem Nx:∀ (l:List AV),AV.clean.cleanL n l=true→AV.frz.frzL n es l=l
 | [],_=>rfl
 | x :: l,h=>by
  simp only [AV.clean.cleanL,Bool.and_eq_true] at h
  simp only [AV.frz.frzL]; rw [frz_id x h.1,Nx l h.2]
end
theorem AO.frz_id:∀ (x:AO),x.clean n=true→x.frz n es=x
 | .cells cs,h=>by simp only [AO.frz]; rw [← Kc,Nx cs (by simpa [AO.clean] using h)]
 | .arr _ _,_=>rfl
 | .obj _,_=>rfl
 | .it k X,h=>by
  simp only [AO.clean,bne_iff_ne] at h
  simp only [AO.frz,if_neg h]
 | .loop k tm,h=>by
  have h:AV.clean.cleanL n (tm.map (·.2))=true:=h
  rw [Bd] at h
  simp only [AO.frz]
  congr 1
  refine List.ext_getElem? fun i=>?_
  rw [List.getElem?_map]
  cases e:tm[i]? with
  | none=>rfl
  | some p=>rw [Option.map_some,AM.frz_id p.2 (h i p.2 (by rw [List.getElem?_map,e]; rfl))]
end
def P3 (ks:List Int):Value:=.agg (ks.map (Value.int .i64)).toArray
def Agt (ks:List Int):List (List Int × Value)→Bool
 | []=>true
 | p :: r=>!decide (p.1=ks)&&Agt ks r
def Xg (n:Nat):List (List Int × Value)→Bool
 | []=>true
 | p :: r=>(p.1.length == n)&&(p.1.all inR&&(Agt p.1 r&&Xg n r))
def Hf (ks:List Int):List (List Int × Value)→Option Value
 | []=>none
 | p :: r=>if p.1=ks then some p.2 else Hf ks r
def Wc (n:Nat) (kv:List (List Int × Value)):Obj→Prop:=fun o=>∃ es clock,o=.map es clock∧Xg n kv=true∧es.toList.map (fun e=>(e.key,e.val))=kv.map (fun p=>(P3 p.1,p.2))
theorem Ye {ks:List Int}:∀ {kv:List (List Int × Value)},Agt ks kv=true→∀ p ∈ kv,p.1≠ks
 | [],_,p,hp=>by cases hp
 | q :: r,h,p,hp=>by
  simp only [Agt,Bool.and_eq_true,Bool.not_eq_true',decide_eq_false_iff_not] at h
  rcases List.mem_cons.1 hp with rfl | hp
  ·exact h.1
  ·exact Ye h.2 p hp
theorem Vu {n:Nat}:∀ {kv:List (List Int × Value)},Xg n kv=true→∀ p ∈ kv,p.1.length=n∧p.1.all inR=true
 | [],_,p,hp=>by cases hp
 | q :: r,h,p,hp=>by
  simp only [Xg,Bool.and_eq_true,beq_iff_eq] at h
  rcases List.mem_cons.1 hp with rfl | hp
  ·exact ⟨h.1,h.2.1⟩
  ·exact Vu h.2.2.2 p hp
theorem X5 {n:Nat}:∀ {kv:List (List Int × Value)},Xg n kv=true→∀ p ∈ kv,Hf p.1 kv=some p.2
 | [],_,p,hp=>by cases hp
 | q :: r,h,p,hp=>by
  simp only [Xg,Bool.and_eq_true,beq_iff_eq] at h
  rcases List.mem_cons.1 hp with rfl | hp
  ·simp [Hf]
  ·have:=Ye h.2.2.1 p hp
   simp only [Hf]
   rw [if_neg (fun e=>this e.symm)]
   exact X5 h.2.2.2 p hp
theorem Ty {ks:List Int}:∀ {kv:List (List Int × Value)},(∀ p ∈ kv,p.1≠ks)→Hf ks kv=none
 | [],_=>rfl
 | q :: r,h=>by
  simp only [Hf]
  rw [if_neg (h q (by simp))]
  exact Ty fun p hp=>h p (by simp [hp])
section
variable {P:Program} {r:RB} {N B:Nat} {S:Nat→Prop} {θ:Nat→Loc} {M:Nat→Prop} {w:World} {st:St} {a:Act} {o:Oper} {K:St→Prop}
theorem Xs {k:TypeId} {n:Nat} {kv:List (List Int × Value)} (hk:La P k n) {ks:List Int} (hl:ks.length=n) (hr:ks.all inR=true) {es:Array MapEntry} (hok:Xg n kv=true) (hes:es.toList.map (fun e=>(e.key,e.val))=kv.map (fun p=>(P3 p.1,p.2))) (w:World) :
  (Hf ks kv=none∧(Instr.findKey k (P3 ks) es.toList).run P w=.ok none w)∨∃ j v,Hf ks kv=some v∧(Instr.findKey k (P3 ks) es.toList).run P w=.ok (some (j,v)) w:=by
 have mem:∀ e ∈ es.toList,∃ p ∈ kv,e.key=P3 p.1∧e.val=p.2:=fun e he=>by
  have:(e.key,e.val) ∈ kv.map (fun p=>(P3 p.1,p.2)):=by rw [← hes]; exact List.mem_map_of_mem he
  obtain ⟨p,hp,h⟩:=List.mem_map.1 this
  exact ⟨p,hp,(congrArg Prod.fst h).symm,(congrArg Prod.snd h).symm⟩
 have mem2:∀ p ∈ kv,∃ e ∈ es.toList,e.key=P3 p.1:=fun p hp=>by
  have:(P3 p.1,p.2) ∈ es.toList.map (fun e=>(e.key,e.val)):=by rw [hes]; exact List.mem_map_of_mem (f:=fun p=>(P3 p.1,p.2)) hp
  obtain ⟨e,he,h⟩:=List.mem_map.1 this
  exact ⟨e,he,congrArg Prod.fst h⟩
 obtain ⟨l,hkl⟩:=hk.2 ks hl hr
 rcases hk.1.find w hkl es.toList (fun e he=>by
  obtain ⟨p,hp,h1,_⟩:=mem e he
  rw [h1]; exact hk.2 p.1 (Vu hok p hp).1 (Vu hok p hp).2) with ⟨h1,h2⟩ | ⟨j,e,h1,h2,h3⟩
 ·refine .inl ⟨Ty fun p hp e=>?_,h1⟩
  obtain ⟨x,hx,hx2⟩:=mem2 p hp
  exact h2 x hx (by rw [hx2,e]; rfl)
 ·obtain ⟨p,hp,g1,g2⟩:=mem e (List.mem_of_getElem? h2)
  rw [g1] at h3
  have:=Ac1 h3
  refine .inr ⟨j,p.2,by rw [← this]; exact X5 hok p hp,?_⟩
  rw [← g2]; exact h1
theorem Us {t:TypeId} {dd n:Nat} (ho:o.op=.makeMap t none) (hd:o.dst=some dd) (hN:dd < N) (hfree:st.o (r.b+dd)=none)
  (h:K ((st.setO (r.b+dd) (.obj (Wc n []))).put o.dst (.mp (r.b+dd)))):B4 P r N o st K:=by
 intro B S θ M w a Q hs
 refine ⟨fun _ _=>trivial,?_⟩
 rw [Oper.semAt_eq _ _ _ (by rw [ho]; intro c h; cases h)]
 have hrun:(execOp a.eval o).run P w=.ok (.value (.map (some w.heap.size))) (w.alloc (.map #[] 0)):=by
  simp [execOp,ho,Instr.makeMap]
 rw [hrun]
 have hk:∀ b,b < w.heap.size→(w.alloc (.map #[] 0)).heap[b]?=w.heap[b]?:=fun b hb=>Gi w _ hb
 have hS:=hs.new (d:=r.b+dd) hfree (w':=w.alloc (.map #[] 0)) (l:=⟨w.heap.size,0,false⟩) (o:=.obj (Wc n [])) (by simp) hk (fun _=>⟨Nat.le_refl _,by simp⟩)
  ⟨rfl,_,Gm w _,#[],0,rfl,rfl,by simp⟩ (AO.lives_obj _ _)
 refine ⟨_,h,⟨_,_,hS.put (d:=o.dst) (fun k e=>by rw [hd] at e; cases e; exact hN) (x:=.mp (r.b+dd)) (v:=.map (some w.heap.size)) ?_ ?_,A8.alloc _ _ _,fun n hn _=>Ay (by omega),fun b _ hb _=>.inl hb⟩,by cases o.dst <;> rfl⟩
 ·have:=Al.mp (θ:=Db θ (r.b+dd) ⟨w.heap.size,0,false⟩) (M:=fun b=>M b∨(false=false∧b=w.heap.size)) (w:=w.alloc (.map #[] 0)) (r.b+dd)
  simpa using this
 ·intro m hm
  simp only [AV.clean,bne_eq_false_iff_eq] at hm
  subst hm
  simp [St.setO]
theorem Pa {t k e:TypeId} {x i:Operand} {m n:Nat} {kv:List (List Int × Value)} {z:Value} {cs:List AV} {ks:List Int} (ho:o.op=.lookup t x i true) (hd:∀ k,o.dst=some k→k < N) (ht:(Ab P t).k=.mp k e) (hz:∀ w,(zeroValue e).run P w=.ok z w) (hzf:D7 z=true) (hk:La P k n)
  (hx:ev st.t x=.mp m) (hm:st.o m=some (.obj (Wc n kv))) (hi:ev st.t i=.agg cs) (hks:Cn cs=some ks) (hl:ks.length=n) (hr:ks.all inR=true)
  (h1:∀ v,Hf ks kv=some v→D7 v=true∧K (st.put o.dst (.tup [Bc v,.p (.val (.bool true))]))) (h2:Hf ks kv=none→K (st.put o.dst (.tup [Bc z,.p (.val (.bool false))]))):B4 P r N o st K:=by
 intro B S θ M w a Q hs
 refine ⟨fun _ _=>trivial,?_⟩
 rw [Oper.semAt_eq _ _ _ (by rw [ho]; intro c h; cases h)]
 have hxv:=Aak (Am hs x) hx
 have hiv:=Gq (Am hs i) hi hks
 obtain ⟨_,ob,hob,es,clock,rfl,hok,hes⟩:=hs.ob m _ hm
 have hu:P.underlying t=some (.map k e):=Nf ht
 have hchk:∀ em,(Instr.checkKey em 10000 k (.agg (ks.map (Value.int .i64)).toArray)).run P w=.ok () w:=fun em=>by
  obtain ⟨l,hkl⟩:=hk.2 ks hl hr
  exact hk.1.check w em hkl
 have fin:∀ (v:Value) (b:Bool),D7 v=true→K (st.put o.dst (.tup [Bc v,.p (.val (.bool b))]))→∃ st',K st'∧Fin r N B S θ M w a st' (a.put o.dst (.tuple #[v,.bool b])) w:=by
  intro v b hv hK
  refine ⟨_,hK,(Adv.put hs hd ?_ ?_).toM,by cases o.dst <;> rfl⟩
  ·refine .tup _ _ rfl (fun i x hx=>?_)
   cases i with
   | zero=>cases hx; exact Abi hv
   | succ i=>cases i with
    | zero=>cases hx; exact .p _ _ (.val _ rfl)
    | succ i=>simp at hx
  ·refine AV.lives_tup.2 fun i x hx=>?_
   cases i with
   | zero=>cases hx; exact Ez hv
   | succ i=>cases i with
    | zero=>cases hx; exact AV.lives_p _ _
    | succ i=>simp at hx
 rcases Xs hk hl hr hok hes w with ⟨hn,hf⟩ | ⟨j,v,hv,hf⟩
 ·have hrun:(execOp a.eval o).run P w=.ok (.value (.tuple #[z,.bool false])) w:=by
   unfold P3 at hf
   simp [execOp,ho,hxv,hiv,Instr.lookup,A6 hu,getObj,Sem.run,hob,hchk,hf,hz]
  rw [hrun]
  exact fin _ false hzf (h2 hn)
 ·have hrun:(execOp a.eval o).run P w=.ok (.value (.tuple #[v,.bool true])) w:=by
   unfold P3 at hf
   simp [execOp,ho,hxv,hiv,Instr.lookup,A6 hu,getObj,Sem.run,hob,hchk,hf]
  rw [hrun]
  exact fin _ true (h1 v hv).1 (h1 v hv).2
theorem Sd {t k e:TypeId} {x i v:Operand} {m n:Nat} {kv:List (List Int × Value)} {y:Value} {cs:List AV} {ks:List Int} (ho:o.op=.mapUpdate t x i v) (hd:o.dst=none) (ht:(Ab P t).k=.mp k e) (hk:La P k n)
  (hx:ev st.t x=.mp m) (hm:st.o m=some (.obj (Wc n kv))) (hi:ev st.t i=.agg cs) (hks:Cn cs=some ks) (hl:ks.length=n) (hr:ks.all inR=true) (hnone:Hf ks kv=none) (hok':Xg n (kv++[(ks,y)])=true) (hgf:D7 y=true) (hv:ev st.t v=Bc y)
  (h1:K (st.setO m (.obj (Wc n (kv++[(ks,y)]))))):B4 P r N o st K:=by
 intro B S θ M w a Q hs
 refine ⟨fun _ _=>trivial,?_⟩
 rw [Oper.semAt_eq _ _ _ (by rw [ho]; intro c h; cases h)]
 have hxv:=Aak (Am hs x) hx
 have hiv:=Gq (Am hs i) hi hks
 have hvv:a.eval v=y:=by have:=Am hs v; rw [hv] at this; exact Abf hgf this
 obtain ⟨hnil,ob,hob,es,clock,rfl,hok,hes⟩:=hs.ob m _ hm
 have hu:P.underlying t=some (.map k e):=Nf ht
 have hchk:∀ em,(Instr.checkKey em 10000 k (.agg (ks.map (Value.int .i64)).toArray)).run P w=.ok () w:=fun em=>by
  obtain ⟨l,hkl⟩:=hk.2 ks hl hr
  exact hk.1.check w em hkl
 have hlt:(θ m).blk < w.heap.size:=hs.mlt _ (hs.lv m _ hm hnil).1
 rcases Xs hk hl hr hok hes w with ⟨hn,hf⟩ | ⟨j,v',hv',hf⟩
 ·have hrun:(execOp a.eval o).run P w=.ok .skip (w.putObj (θ m).blk (.map (es.push { key:=P3 ks,val:=y,born:=clock }) (clock+1))):=by
   unfold P3 at hf ⊢
   simp [execOp,ho,hxv,hiv,hvv,Instr.mapUpdate,A6 hu,getObj,setObj,Sem.run,hob,hchk,hf,World.putObj]
  rw [hrun]
  have hkk:∀ b,b≠(θ m).blk→(w.putObj (θ m).blk (.map (es.push { key:=P3 ks,val:=y,born:=clock }) (clock+1))).heap[b]?=w.heap[b]?:=fun b hb=>World.putObj_heap_other hb
  have hS:=hs.upd (o':=.obj (Wc n (kv++[(ks,y)]))) hm hnil (by simp) hkk ⟨hnil,_,World.putObj_heap_same hlt,_,_,rfl,hok',by simp [hes]⟩ (AO.lives_obj _ _)
  show ∃ st',K st'∧Fin r N B S θ M w a st' (a.put o.dst undef) (w.putObj (θ m).blk (.map (es.push { key:=P3 ks,val:=y,born:=clock }) (clock+1)))
  rw [hd]
  exact ⟨_,h1,⟨θ,M,hS,A8.of_upd hs hm hnil (by simp) hkk rfl rfl rfl,fun _ _ _=>rfl,fun _ _ h _=>h⟩,rfl⟩
 ·rw [hnone] at hv'; cases hv'
end
theorem Ba3 (i:Nat):T [] i=.undef:=rfl
theorem Af (j:Nat) (x:AV) (l:List (Nat × AV)) (i:Nat):T ((j,x) :: l) i=if i=j then x else T l i:=rfl
theorem Bcs (i:Nat):O [] i=none:=rfl
theorem Ag (j:Nat) (x:AO) (l:List (Nat × AO)) (i:Nat):O ((j,x) :: l) i=if i=j then some x else O l i:=rfl
theorem Bbx (l:List (Nat × AV)) (d:Nat) (x:AV):upd (T l) d x=T ((d,x) :: l):=rfl
theorem Bdc (l:List (Nat × AO)) (d:Nat) (x:AO):upd (O l) d (some x)=O ((d,x) :: l):=rfl
abbrev i64 (n:Int):AV:=.p (.val (.int .i64 n))
abbrev bl (b:Bool):AV:=.p (.val (.bool b))
theorem Apl (t:Nat→AV) (o:Nat→Option AO) (d:Nat) (x:AV):St.put ⟨t,o⟩ (some d) x=⟨upd t d x,o⟩:=rfl
theorem Anv (s:St) (x:AV):St.put s none x=s:=rfl
theorem Aqa (t:Nat→AV) (o:Nat→Option AO) (n:Nat) (x:AO):St.setO ⟨t,o⟩ n x=⟨t,upd o n (some x)⟩:=rfl
def Ter (n:Nat) (l:List (Nat × AV)):List (Nat × AV):=l.map fun p=>(p.1,p.2.purge n)
def Oer (n:Nat):List (Nat × AO)→List (Nat × AO)
  | []=>[]
  | (j,x) :: l=>if j=n then Oer n l else (j,x.purge n) :: Oer n l
theorem Aa9 (n:Nat) (l:List (Nat × AV)):(fun i=>(T l i).purge n)=T (Ter n l):=by
  funext i
  induction l with
  | nil=>rfl
  | cons p r ih=>
    simp only [Ter,List.map_cons,T]
    split
    · rfl
    · exact ih
theorem Ar0 (n:Nat) (l:List (Nat × AO)):(fun m=>if m=n then none else (O l m).map (AO.purge n))=O (Oer n l):=by
  funext i
  induction l with
  | nil=>simp [Oer,O]
  | cons p r ih=>
    obtain ⟨j,x⟩:=p
    have ih:(if i=n then none else (O r i).map (AO.purge n))=O (Oer n r) i:=ih
    simp only [Oer]
    by_cases hj:j=n
    · subst hj
      simp only [if_true,O]
      by_cases hi:i=j
      · subst hi; simp only [if_true] at ih ⊢; exact ih
      · simp only [hi,if_false] at ih ⊢; exact ih
    · simp only [hj,if_false,O]
      by_cases hi:i=j
      · subst hi; simp [hj]
      · simp only [hi,if_false] at ih ⊢; exact ih
theorem Ao4 (n:Nat) (l:List (Nat × AV)) (m:List (Nat × AO)):St.purge n ⟨T l,O m⟩=⟨T (Ter n l),O (Oer n m)⟩:=by
  unfold St.purge
  simp only [← Aa9,← Ar0]
theorem Aqw (n:Nat):Ter n []=[]:=rfl
theorem Ama (n j:Nat) (x:AV) (l:List (Nat × AV)):Ter n ((j,x) :: l)=(j,x.purge n) :: Ter n l:=rfl
theorem Lk (n:Nat) (x:PV):(AV.p x).purge n=.p x:=rfl
theorem Abw (n:Nat):AV.undef.purge n=.undef:=rfl
theorem Xm (n m off:Nat):(AV.ptr m off).purge n=if m=n then .undef else .ptr m off:=by
  unfold AV.purge; by_cases h:m=n <;> simp [AV.clean,h]
theorem Aer (n m k i off:Nat):(AV.eptr m k i off).purge n=if m=n then .undef else .eptr m k i off:=by
  unfold AV.purge; by_cases h:m=n <;> simp [AV.clean,h]
theorem Ajk (n m len:Nat):(AV.own m len).purge n=if m=n then .undef else .own m len:=by
  unfold AV.purge; by_cases h:m=n <;> simp [AV.clean,h]
theorem Ah4 (n m off k len:Nat):(AV.csl m off k len).purge n=if m=n then .undef else .csl m off k len:=by
  unfold AV.purge; by_cases h:m=n <;> simp [AV.clean,h]
theorem Ah6 (n:Nat) (l:List AV):(AV.tup l).purge n=if AV.clean.cleanL n l then .tup l else .undef:=rfl
theorem Aj6 (n:Nat) (l:List AV):(AV.agg l).purge n=if AV.clean.cleanL n l then .agg l else .undef:=rfl
theorem Ex (n:Nat) (l:List AV):(AO.cells l).purge n=.cells (l.map (AV.purge n)):=rfl
theorem Gg (n k:Nat) (es:List (List PV)):(AO.arr k es).purge n=.arr k es:=rfl
def Cc:Op→Bool
  | .call c=>match c.callee with | .value _=>true | _=>false
  | _=>false
def Dd:Op→Bool
  | .defer _=>true
  | _=>false
def Bx (N:Nat):Option Nat→Bool
  | none=>true
  | some d=>decide (d < N)
def EA (nb:Nat) (dst:Option Nat) (s:St) (K:St→Prop):Option Eff→Prop
  | some e=>match e.apply nb dst s with
    | some s'=>K s'
    | none=>False
  | none=>False
def EC (P:Program) (s:St) (K:AV→Prop):Op→Prop
  | .call ⟨.value (.func f),as,_⟩=>A7 P f=true∧∃ args res,Dg s.o (as.toList.map (ev s.t))=some args∧Bt P f args res∧(res.scal=true∨as.toList.map (ev s.t)=args∨Ahp P f args res)∧K res
  | _=>False
def EN (P:Program) (nb:Nat) (dst:Option Nat) (s:St) (K:St→Prop):Op→Prop
  | .call ⟨.value (.func f),as,_⟩=>A7 P f=true∧∃ args k es d,Dg s.o (as.toList.map (ev s.t))=some args∧H0 P f args k es∧dst=some d∧s.o (nb+d)=none∧K ((s.setO (nb+d) (.arr k es)).put dst (.own (nb+d) es.length))
  | _=>False
def isV (v:List Nat):Op→Bool
  | .call c=>match c.callee with
    | .value (.func f)=>v.contains f
    | .value _=>true
    | _=>false
  | _=>false
def Ary (P:Program) (r:RB) (N:Nat) (fv:AV) (args:List AV) (dst:Option Nat) (s:St) (K:St→Prop):Prop:=
  Bx N dst=true∧∃ mv bd R,Gn P mv bd fv args s.o R∧(∀ n,bd≤n→s.o n=none)∧r.b≤bd∧(∀ n,mv n→r.mv n∨r.b≤n) ∧
    ∀ res os',R res os'→(Hp os').closed→res.lives os'→∃ t':Nat→AV,(∀ i,t' i=.undef∨(t' i=s.t i∧(s.t i).stays mv))∧(∀ i,(t' i).lives os')∧K (St.put ⟨t',os'⟩ dst res)
def EVq (P:Program) (r:RB) (N:Nat) (fv:AV) (args:List AV) (dst:Option Nat) (s:St) (K:St→Prop):Prop:=
  Bx N dst=true∧∃ bd res,Bg P bd fv args s.o (fun x os'=>x=res∧os'=s.o)∧(∀ n,bd≤n→s.o n=none)∧r.b≤bd∧res.isP=true∧K (s.put dst res)
def EVk (P:Program) (r:RB) (N:Nat) (fv:AV) (args:List AV) (dst:Option Nat) (s:St) (K:St→Prop):Prop:=
  Ary P r N fv args dst s K∨(∃ n k es,s.o n=some (.arr k es)∧Ary P r N (fv.frz n es) (args.map (AV.frz n es)) dst (s.frz n es) K)∨EVq P r N fv args dst s K
theorem An6 {n:Nat} {es:List (List PV)} {s:St}:∀ (x:Operand),ev (s.frz n es).t x=(ev s.t x).frz n es
  | .tmp _=>rfl
  | .global _=>rfl
  | .func _=>rfl
  | .const v=>by
    show Bc v=(Bc v).frz n es
    unfold Bc
    split
    · split
      · simp only [AV.frz,Kc,List.map_map]; rfl
      · rfl
    · rfl
    · rfl
def isQ (q:List Nat):Operand→Bool
  | .func f=>q.contains f
  | _=>false
def EV (P:Program) (r:RB) (N:Nat) (dst:Option Nat) (s:St) (K:St→Prop):Op→Prop
  | .call c=>match c.callee with
    | .value g=>if isQ r.q g=true then EVq P r N (ev s.t g) (c.args.toList.map (ev s.t)) dst s K else EVk P r N (ev s.t g) (c.args.toList.map (ev s.t)) dst s K
    | _=>False
  | _=>False
def isM:Op→Bool
  | .makeMap _ none=>true
  | .lookup _ _ _ true=>true
  | .mapUpdate ..=>true
  | _=>false
def LV (P:Program) (t:TypeId) (x i:AV) (os:Nat→Option AO) (A B:AV):Prop:=∃ k e m n z cs ks,(Ab P t).k=.mp k e∧(∀ w,(zeroValue e).run P w=.ok z w)∧D7 z=true∧La P k n∧x=.mp m∧i=.agg cs∧Cn cs=some ks∧ks.length=n∧ks.all inR=true ∧
  ((∃ g,D7 (g ks)=true∧os m=some (.obj (Gb n g))∧A=.tup [Bc (g ks),.p (.val (.bool true))]∧B=.tup [Bc z,.p (.val (.bool false))]) ∨
   ∃ kv,os m=some (.obj (Wc n kv))∧B=A∧((∃ v,Hf ks kv=some v∧D7 v=true∧A=.tup [Bc v,.p (.val (.bool true))])∨(Hf ks kv=none∧A=.tup [Bc z,.p (.val (.bool false))])))
def UV (P:Program) (t:TypeId) (x i v:AV) (s:St) (s':St):Prop:=∃ k e m n cs ks,(Ab P t).k=.mp k e∧La P k n∧x=.mp m∧i=.agg cs∧Cn cs=some ks∧ks.length=n∧ks.all inR=true ∧
  ((∃ g,s.o m=some (.obj (Gb n g))∧D7 (g ks)=true∧v=Bc (g ks)∧s'=s) ∨
   ∃ kv y,s.o m=some (.obj (Wc n kv))∧Hf ks kv=none∧Xg n (kv++[(ks,y)])=true∧D7 y=true∧v=Bc y∧s'=s.setO m (.obj (Wc n (kv++[(ks,y)]))))
def Anr (X:Obj→Prop):Prop:=(∃ n g,X=Gb n g)∨∃ n,X=Wc n []
def EM (P:Program) (r:RB) (N:Nat) (dst:Option Nat) (s:St) (K:St→Prop):Op→Prop
  | .makeMap _ none=>∃ dd X,Anr X∧dst=some dd∧dd < N∧s.o (r.b+dd)=none∧K ((s.setO (r.b+dd) (.obj X)).put dst (.mp (r.b+dd)))
  | .lookup t x i true=>Bx N dst=true∧∃ A B,LV P t (ev s.t x) (ev s.t i) s.o A B∧K (s.put dst A)∧K (s.put dst B)
  | .mapUpdate t x i v=>dst=none∧∃ s',UV P t (ev s.t x) (ev s.t i) (ev s.t v) s s'∧K s'
  | _=>False
theorem Amu {P:Program} {r:RB} {N:Nat} {o:Oper} {s:St} {K:St→Prop} (h:EM P r N o.dst s K o.op):B4 P r N o s K:=by
  unfold EM at h
  split at h
  · rename_i t ho
    obtain ⟨dd,X,hX,h1,h2,h3,h4⟩:=h
    rcases hX with ⟨n,g,rfl⟩ | ⟨n,rfl⟩
    · exact Wz ho h1 h2 h3 h4
    · exact Us ho h1 h2 h3 h4
  · rename_i t x i ho
    obtain ⟨h0,A,B,⟨k,e,m,n,z,cs,ks,h1,h2,f1,h3,h4,h6,h7,h8,h9,hc⟩,h10,h11⟩:=h
    have hd:∀ k,o.dst=some k→k < N:=fun k hk=>by rw [hk] at h0; simpa [Bx] using h0
    rcases hc with ⟨g,f2,h5,rfl,rfl⟩ | ⟨kv,h5,rfl,hc⟩
    · exact Z8 ho hd h1 h2 f1 f2 h3 h4 h5 h6 h7 h8 h9 h10 h11
    · rcases hc with ⟨v,c1,c2,rfl⟩ | ⟨c1,rfl⟩
      · exact Pa ho hd h1 h2 f1 h3 h4 h5 h6 h7 h8 h9 (fun v' hv'=>by rw [c1] at hv'; cases hv'; exact ⟨c2,h10⟩) (fun hn=>by rw [c1] at hn; cases hn)
      · exact Pa ho hd h1 h2 f1 h3 h4 h5 h6 h7 h8 h9 (fun v' hv'=>by rw [c1] at hv'; cases hv') (fun _=>h10)
  · rename_i t x i v ho
    obtain ⟨h0,s',⟨k,e,m,n,cs,ks,h1,h3,h4,h6,h7,h8,h9,hc⟩,h11⟩:=h
    rcases hc with ⟨g,h5,f1,h10,rfl⟩ | ⟨kv,y,h5,c1,c2,f1,h10,rfl⟩
    · exact Te ho h0 h1 h3 h4 h5 h6 h7 h8 h9 f1 h10 h11
    · exact Sd ho h0 h1 h3 h4 h5 h6 h7 h8 h9 c1 c2 f1 h10 h11
  · exact h.elim
def EO (P:Program) (r:RB) (N:Nat) (o:Oper) (s:St) (K:St→Prop):Prop:=
  if isM o.op then EM P r N o.dst s K o.op else if isV r.v o.op then EV P r N o.dst s K o.op else if Cc o.op then Bx N o.dst=true∧(EC P s (fun x=>K (s.put o.dst x)) o.op∨EN P r.b o.dst s K o.op) else (Dd o.op=false∧Bx N o.dst=true)∧EA r.b o.dst s K (eff P (r.b+o.dst.getD 0) o.op (ev s.t) s.o)
def EL (P:Program) (r:RB) (N:Nat) (all:List Oper):List Oper→St→(St→Prop)→Prop
  | [],s,K=>K s
  | o :: rest,s,K=>match o.guard with
    | none=>EO P r N o s fun s'=>EL P r N all rest s' K
    | some (j,want)=>match Hd all j with
      | none=>False
      | some t=>match s.t t with
        | .p (.val (.bool b))=>Bx N o.dst=true∧(b=want→EO P r N o s fun s'=>EL P r N all rest s' K)∧(b=!want→EL P r N all rest (s.put o.dst Cg) K)
        | .tup []=>Bx N o.dst=true∧EL P r N all rest (s.put o.dst Cg) K
        | _=>False
theorem Cs {N:Nat} {d:Option Nat} (h:Bx N d=true):∀ k,d=some k→k < N:=by
  intro k hk; subst hk; simpa [Bx] using h
theorem N3 {P:Program} {r:RB} {N:Nat} {s:St} {o:Oper} {K:St→Prop} {c:Call} {g:Operand} {bd:Nat} {res:AV} (ho:o.op=.call c) (hd:∀ k,o.dst=some k→k < N) (hc:c.callee=.value g)
    (hcall:Bg P bd (ev s.t g) (c.args.toList.map (ev s.t)) s.o (fun x os'=>x=res∧os'=s.o)) (hbd:∀ n,bd≤n→s.o n=none) (hb:r.b≤bd) (h:K (s.put o.dst res)):B4 P r N o s K:=by
  intro B S θ M w a Q hs
  exact Ad0 ho hd hc hcall hbd hb (fun x os' ⟨e1,e2⟩ _ _=>⟨s.t,fun _=>.inr rfl,fun i=>by rw [e2]; exact hs.cl.1 i,by subst e1 e2; exact h⟩) B S θ M w a Q hs
theorem Fh {P:Program} {r:RB} {N:Nat} {o:Oper} {s:St} {K:St→Prop} (h:EO P r N o s K):B4 P r N o s K:=by
  unfold EO at h
  split at h
  · exact Amu h
  split at h
  · unfold EV at h
    split at h
    · rename_i c ho
      split at h
      · rename_i g hc
        split at h
        · obtain ⟨h1,bd,res,h2,h3,h4,h5,h6⟩:=h
          exact N3 ho (Cs h1) hc h2 h3 h4 h6
        · rcases h with h | ⟨n,k,es,hn,h⟩ | h
          · obtain ⟨h1,mv,bd,R,h2,h3,h4,h6,h5⟩:=h
            exact Ln ho (Cs h1) hc h2 h3 h4 h6 h5
          · obtain ⟨h1,mv,bd,R,h2,h3,h4,h6,h5⟩:=h
            refine Akm n hn (Ln ho (Cs h1) hc ?_ h3 h4 h6 h5)
            rw [An6,List.map_congr_left (fun x _=>An6 x)]
            rw [List.map_map] at h2
            exact h2
          · obtain ⟨h1,bd,res,h2,h3,h4,h5,h6⟩:=h
            exact N3 ho (Cs h1) hc h2 h3 h4 h6
      · exact h.elim
    · exact h.elim
  split at h
  · obtain ⟨h1,h2⟩:=h
    rcases h2 with h2 | h2
    · unfold EC at h2
      split at h2
      · rename_i f as ts ho
        obtain ⟨h3,args,res,h4,h5,h6,h7⟩:=h2
        rcases h6 with h6 | h6 | h6
        · exact T4 ho (Cs h1) rfl h3 h4 h5 (.inl h6) h7
        · exact T4 ho (Cs h1) rfl h3 h4 h5 (.inr h6) h7
        · exact Ab9 ho (Cs h1) rfl h3 h4 h6 h7
      · exact h2.elim
    · unfold EN at h2
      split at h2
      · rename_i f as ts ho
        obtain ⟨h3,args,k,es,d,h4,h5,h6,h7,h8⟩:=h2
        exact Abp ho h6 (Cs h1 d h6) rfl h3 h4 h5 h7 h8
      · exact h2.elim
  · obtain ⟨⟨h1,h2⟩,h3⟩:=h
    unfold EA at h3
    split at h3
    · rename_i e he
      split at h3
      · rename_i s' hs'
        exact B4.eff (d:=r.b+o.dst.getD 0) (fun c hc=>by rw [hc] at h1; cases h1) (Cs h2) (fun k hk=>by rw [hk]; rfl) he hs' h3
      · cases h3
    · cases h3
theorem B4.mono {P:Program} {r:RB} {N:Nat} {o:Oper} {s:St} {K K':St→Prop} (h:B4 P r N o s K) (hk:∀ s,K s→K' s):B4 P r N o s K':=by
  intro B S θ M w a Q hs
  exact Oper.wpIn_mono (fun a' w' ⟨st',h1,h2⟩=>⟨st',hk _ h1,h2⟩) (h B S θ M w a Q hs)
theorem Dc {P:Program} {r:RB} {N:Nat} {all:List Oper}:∀ {l:List Oper} {s:St} {K:St→Prop},EL P r N all l s K→AL P r N all l s K
  | [],s,K,h=>.nil h
  | ⟨dst,op,ty,pos,after,none⟩ :: rest,s,K,h=>by
    simp only [EL] at h
    exact AL.step ((Fh h).mono fun s' h'=>Dc h')
  | ⟨dst,op,ty,pos,after,some (j,want)⟩ :: rest,s,K,h=>by
    simp only [EL] at h
    split at h
    · cases h
    · rename_i t ht
      split at h
      · rename_i b hb
        obtain ⟨h1,h2,h3⟩:=h
        refine AL.guard (Cs h1) ht (g:=some b) (by rw [hb]; rfl) (fun e=>(Fh (h2 (by simpa using e))).mono fun s' h'=>Dc h') (fun e=>Dc (h3 ?_))
        cases b <;> cases want <;> simp_all
      · rename_i hb
        exact AL.guard (Cs h.1) ht (g:=none) (by rw [hb]; rfl) (fun e=>by cases e) (fun _=>Dc h.2)
      · cases h
theorem Ac {P:Program} {r:RB} {N:Nat} {st:St} {Q:AEx→St→Prop} {id:Nat} {ops:List Oper} (h:EL P r N ops ops st (Q .normal)):AWP P r N (.region id ops.toArray false) st Q:=C0 (Dc h)
theorem Aw5 {P:Program} {r:RB} {N:Nat} {all:List Oper} {s:St} {K:St→Prop}:EL P r N all [] s K=K s:=rfl
theorem Bas {P:Program} {r:RB} {N:Nat} {all rest:List Oper} {s:St} {K:St→Prop} {dst:Option Nat} {op:Op} {ty:TypeId} {pos:String} {after:Array Edge} :
    EL P r N all (⟨dst,op,ty,pos,after,none⟩ :: rest) s K=EO P r N ⟨dst,op,ty,pos,after,none⟩ s fun s'=>EL P r N all rest s' K:=rfl
def EG (P:Program) (r:RB) (N:Nat) (all rest:List Oper) (o:Oper) (want:Bool) (s:St) (K:St→Prop):AV→Prop
  | .p (.val (.bool b))=>Bx N o.dst=true∧(b=want→EO P r N o s fun s'=>EL P r N all rest s' K)∧(b=!want→EL P r N all rest (s.put o.dst Cg) K)
  | .tup []=>Bx N o.dst=true∧EL P r N all rest (s.put o.dst Cg) K
  | _=>False
theorem Auy {P:Program} {r:RB} {N:Nat} {all rest:List Oper} {s:St} {K:St→Prop} {dst:Option Nat} {op:Op} {ty:TypeId} {pos:String} {after:Array Edge} {j:Nat} {want:Bool} :
    EL P r N all (⟨dst,op,ty,pos,after,some (j,want)⟩ :: rest) s K=EG P r N all rest ⟨dst,op,ty,pos,after,some (j,want)⟩ want s K ((Hd all j).elim .undef s.t):=by
  simp only [EL]
  cases Hd all j with
  | none=>rfl
  | some t=>
    simp only [Option.elim]
    unfold EG
    rfl
theorem Axp {P:Program} {r:RB} {N:Nat} {all rest:List Oper} {s:St} {K:St→Prop} {o:Oper} {want:Bool} :
    EG P r N all rest o want s K (.tup [])=(Bx N o.dst=true∧EL P r N all rest (s.put o.dst Cg) K):=rfl
theorem Agq {P:Program} {r:RB} {N:Nat} {s:St} {K:St→Prop} {d:Nat} {x:Operand} {ty:TypeId} {pos:String} {after:Array Edge} {g:Option (Nat × Bool)} :
    EO P r N ⟨some d,.move x,ty,pos,after,g⟩ s K=(decide (d < N)=true∧K (s.put (some d) (ev s.t x))):=by
  simp [EO,isM,isV,Cc,Dd,Bx,EA,eff,Eff.apply]
theorem Axy (t:Nat→AV) (i:Nat):ev t (.tmp i)=t i:=rfl
theorem Axh (t:Nat→AV) (k:IntKind) (n:Int):ev t (.const (.int k n))=.p (.val (.int k n)):=rfl
theorem Aqb (t:Nat→AV) (b:Bool):ev t (.const (.bool b))=bl b:=rfl
theorem Am6 (t:Nat→AV) (a:Option Addr) (l c:Nat):ev t (.const (.slice a l c))=.p (.val (.slice a l c)):=rfl
theorem Ark (t:Nat→AV) (f:FuncId):ev t (.func f)=.fn (.func f) [] []:=rfl
theorem Fc {n:Int} (h1:-9223372036854775808≤n) (h2:n < 9223372036854775808):IntKind.i64.wrap n=n:=by
  simp only [IntKind.wrap,IntKind.bits,IntKind.signed]
  simp
  omega
end AM
namespace AM
open Go
def Ret (P:Program) (rs:List ResultVar) (res:AV):AEx→St→Prop
  | .normal,s=>(C6 P s rs).map Df=some res
  | .ret,s=>(C6 P s rs).map Df=some res
  | .exit _,_=>False
theorem Ae5 {P:Program} {rs:List ResultVar} {res:AV} {s:St}:Ret P rs res .normal s=((C6 P s rs).map Df=some res):=rfl
theorem Ap8 {P:Program} {rs:List ResultVar} {res:AV} {s:St}:Ret P rs res .ret s=((C6 P s rs).map Df=some res):=rfl
theorem Qt {K:St→Prop} {Q:AEx→St→Prop} {s:St}:Jr K Q .normal s=K s:=rfl
theorem Y5 {K:St→Prop} {Q:AEx→St→Prop} {s:St}:Jr K Q .ret s=Q .ret s:=rfl
theorem Pd {i:Nat} {Q:AEx→St→Prop} {s:St}:L1 i Q .normal s=Q .normal s:=rfl
theorem Ve {i:Nat} {Q:AEx→St→Prop} {s:St}:L1 i Q .ret s=Q .ret s:=rfl
theorem Sz {i j:Nat} {Q:AEx→St→Prop} {s:St}:L1 i Q (.exit j) s=if j=i then Q .normal s else Q (.exit j) s:=rfl
def ixs:Nat→List AV→List (Nat × AV)
  | _,[]=>[]
  | i,x :: r=>(i,x) :: ixs (i+1) r
theorem Aut (l:List AV):∀ k i,T (ixs k l) i=if i < k then .undef else l.getD (i - k) .undef:=by
  induction l with
  | nil=>intro k i; simp [ixs,T]
  | cons x r ih=>
    intro k i
    simp only [ixs,T,ih]
    by_cases h:i=k
    · subst h; simp
    · simp only [h,if_false]
      by_cases h2:i < k
      · rw [if_pos h2,if_pos (by omega)]
      · rw [if_neg h2,if_neg (by omega)]
        have e:i - k=(i - (k+1))+1:=by omega
        rw [e]; simp
theorem Ub (l:List AV):St.init l=⟨T (ixs 0 l),O []⟩:=by
  unfold St.init
  congr 1
  funext i
  rw [Aut]; simp
theorem Bn {v q:List Nat} {P:Program} {f:FuncId} {fn:Func} {body:Code} {args:List AV} {res:AV} {N:Nat} {rs:List ResultVar} (hf:P.funcs[f]?=some fn) (hb:fn.body=some body) (hN:fn.ntmps=N) (hrs:fn.results.toList=rs) (hargs:args.all AV.isP=true) (hres:res.isP=true)
    (h:AWP P ⟨⟨none,fun _=>False⟩,0,v,q⟩ N body ⟨T (ixs 0 args),O []⟩ (Ret P rs res)):Bt P f args res:=by
  subst hN hrs
  refine Zv (v:=v) (q:=q) hf hb hargs ?_ hres
  rw [Ub]
  refine h.mono fun e s h=>?_
  cases e with
  | normal=>exact ⟨.inl rfl,h⟩
  | ret=>exact ⟨.inr rfl,h⟩
  | exit i=>exact h.elim
end AM
namespace AM
open Go
def Bah (i:Nat) (res:AV):AEx→St→Prop
  | .normal,s=>Aht 0 s.o (s.t i)=some res
  | .ret,s=>Aht 0 s.o (s.t i)=some res
  | .exit _,_=>False
theorem Adk {i:Nat} {res:AV} {s:St}:Bah i res .normal s=(Aht 0 s.o (s.t i)=some res):=rfl
theorem Am4 {i:Nat} {res:AV} {s:St}:Bah i res .ret s=(Aht 0 s.o (s.t i)=some res):=rfl
theorem Ajt {v q:List Nat} {P:Program} {f:FuncId} {fn:Func} {body:Code} {args:List AV} {res:AV} {N:Nat} {rs:List ResultVar} (hf:P.funcs[f]?=some fn) (hb:fn.body=some body) (hN:fn.ntmps=N) (hrs:fn.results.toList=rs) (hargs:args.all AV.isP=true) (hres:res.isP=true)
    (h:Ey P ⟨⟨none,fun _=>False⟩,0,v,q⟩ N body ⟨T (ixs 0 args),O []⟩ (Ret P rs res)):Bt P f args res:=by
  subst hN hrs
  refine Xc (v:=v) (q:=q) hf hb hargs ?_ hres
  rw [Ub]
  intro B S θ M w a hs
  refine wpIn_mono (h B S θ M w a hs) ?_
  rintro e a' w' ⟨ae,st',h1,h2,h3⟩
  refine ⟨ae,st',h1,?_,h3⟩
  cases ae with
  | normal=>exact ⟨.inl rfl,h2⟩
  | ret=>exact ⟨.inr rfl,h2⟩
  | exit i=>exact h2.elim
theorem Uu (l:List AV):(fun i=>l.getD i .undef)=T (ixs 0 l):=by
  funext i
  rw [Aut]; simp
theorem B2 {mv:Nat→Prop} {P:Program} {f:FuncId} {fn:Func} {body:Code} {bd N:Nat} {v q:List Nat} {fs args cs:List AV} {rs:List ResultVar} {os:Nat→Option AO} {R:AV→(Nat→Option AO)→Prop} (hf:P.funcs[f]?=some fn) (hb:fn.body=some body) (hcal:A7 P f=true) (hN:fn.ntmps=N) (hrs:fn.results.toList=rs)
    (h:(Hp os).closed→(∀ n,bd≤n→os n=none)→AWP P ⟨⟨none,mv⟩,bd,v,q⟩ N body ⟨T (ixs 0 (fs++args++cs)),os⟩ (Agc P rs R)):Gn P mv bd (.fn (.func f) fs cs) args os R:=by
  subst hN hrs
  exact Zx (v:=v) (q:=q) hf hb hcal fun h1 h2=>by rw [Uu]; exact h h1 h2
theorem Xp {mv:Nat→Prop} {P:Program} {f:FuncId} {fn:Func} {body:Code} {bd N:Nat} {v q:List Nat} {fs args cs:List AV} {rs:List ResultVar} {os:Nat→Option AO} {R:AV→(Nat→Option AO)→Prop} (hf:P.funcs[f]?=some fn) (hb:fn.body=some body) (hcal:A7 P f=true) (hN:fn.ntmps=N) (hrs:fn.results.toList=rs)
    (h:(Hp os).closed→(∀ n,bd≤n→os n=none)→Ey P ⟨⟨none,mv⟩,bd,v,q⟩ N body ⟨T (ixs 0 (fs++args++cs)),os⟩ (Agc P rs R)):Gn P mv bd (.fn (.func f) fs cs) args os R:=by
  subst hN hrs
  exact Wq (v:=v) (q:=q) hf hb hcal fun h1 h2=>by rw [Uu]; exact h h1 h2
end AM
namespace AM
open Go
def Ayf (i k:Nat) (es:List (List PV)):AEx→St→Prop
  | .normal,s=>Sn k s.o (s.t i)=some es
  | .ret,s=>Sn k s.o (s.t i)=some es
  | .exit _,_=>False
theorem Jv {i k:Nat} {es:List (List PV)} {s:St}:Ayf i k es .normal s=(Sn k s.o (s.t i)=some es):=rfl
theorem Du {i k:Nat} {es:List (List PV)} {s:St}:Ayf i k es .ret s=(Sn k s.o (s.t i)=some es):=rfl
theorem Ki {v q:List Nat} {P:Program} {f:FuncId} {fn:Func} {body:Code} {args:List AV} {N i k:Nat} {es:List (List PV)} (hf:P.funcs[f]?=some fn) (hb:fn.body=some body) (hN:fn.ntmps=N) (hrs:fn.results.toList=[.tmp i]) (hargs:args.all AV.isP=true)
    (h:AWP P ⟨⟨none,fun _=>False⟩,0,v,q⟩ N body ⟨T (ixs 0 args),O []⟩ (Ayf i k es)):H0 P f args k es:=by
  subst hN
  refine Aae (v:=v) (q:=q) hf hb hrs hargs ?_
  rw [Ub]
  refine h.mono fun e s h=>?_
  cases e with
  | normal=>exact ⟨.inl rfl,h⟩
  | ret=>exact ⟨.inr rfl,h⟩
  | exit i=>exact h.elim
theorem Arf {k s b z}:TI.agg ⟨.int k,s,b,z⟩=some false:=rfl
theorem Aor {s b z}:TI.agg ⟨.bool,s,b,z⟩=some false:=rfl
theorem Aq7 {s b z}:TI.agg ⟨.str,s,b,z⟩=some false:=rfl
theorem Aww {e s b z}:TI.agg ⟨.sl e,s,b,z⟩=some false:=rfl
theorem Ays {k e s b z}:TI.agg ⟨.mp k e,s,b,z⟩=some false:=rfl
theorem Ah9 {s b z}:TI.agg ⟨.other,s,b,z⟩=some false:=rfl
theorem Aea {f s b z}:TI.agg ⟨.struct f,s,b,z⟩=some true:=rfl
theorem Ar3 {n e s b z}:TI.agg ⟨.arr n e,s,b,z⟩=some true:=rfl
theorem Ayd {sz:Nat} {x:AV} {r:List AV}:Ai false sz (x :: r)=some x:=rfl
theorem Vo {sz:Nat} {cs:List AV}:Ai true sz cs=if sz≤cs.length then some (.agg (cs.take sz)) else none:=rfl
section
variable {P:Program} {r:RB} {N:Nat} {s:St} {K:St→Prop} {dst:Option Nat} {ty:TypeId} {pos:String} {after:Array Edge} {g:Option (Nat × Bool)} {os:Nat→Option AO}
theorem Rs {v:List Nat} {op:Op} (h:Cc op=false):isV v op=false:=by
 unfold isV
 split
 ·rename_i c
  split
  ·rename_i f hc; simp [Cc,hc] at h
  ·rename_i g _ hc; simp [Cc,hc] at h
  ·rfl
 ·rfl
theorem Asj {op:Op} (h1:Cc op=false) (h2:Dd op=false) (h3:isM op=false:=by rfl):EO P r N ⟨dst,op,ty,pos,after,g⟩ s K=(Bx N dst=true∧EA r.b dst s K (eff P (r.b+dst.getD 0) op (ev s.t) s.o)):=by
 simp [EO,h1,h2,h3,Rs h1]
def EOp (nb N:Nat) (dst:Option Nat) (s:St) (K:St→Prop) (e:Option Eff):Prop:=Bx N dst=true∧EA nb dst s K e
theorem C7 {op:Op} (h1:Cc op=false) (h2:Dd op=false) {e:Option Eff} (he:eff P (r.b+dst.getD 0) op (ev s.t) s.o=e) (h3:isM op=false:=by rfl):EO P r N ⟨dst,op,ty,pos,after,g⟩ s K=EOp r.b N dst s K e:=by
 rw [Asj h1 h2 h3,he]; rfl
theorem Am2 {nb d:Nat} {x:AV}:EOp nb N (some d) s K (some (.pure x))=(decide (d < N)=true∧K (s.put (some d) x)):=rfl
theorem Anp {nb:Nat}:EOp nb N dst s K none=False:=by simp [EOp,EA]
theorem Aq6 {nb d:Nat} {o:AO} {x:AV}:EOp nb N (some d) s K (some (.new o x))=(decide (d < N)=true∧if (s.o (nb+d)).isNone=true then K ((s.setO (nb+d) o).put (some d) x) else False):=by
 simp only [EOp,EA,Bx,Eff.apply]
 cases hb:(s.o (nb+d)).isNone <;> simp
theorem Aq5 {nb n:Nat} {o:AO}:EOp nb N none s K (some (.upd n o))=K (s.setO n o):=by simp [EOp,EA,Bx,Eff.apply,St.put]
theorem Aq8 {nb d n:Nat} {o:AO} {x:AV}:EOp nb N (some d) s K (some (.app n o x))=(decide (d < N)=true∧if ((s.purge n).o (nb+d)).isNone=true then K (((s.purge n).setO (nb+d) o).put (some d) x) else False):=by
 simp only [EOp,EA,Bx,Eff.apply]
 cases hb:((s.purge n).o (nb+d)).isNone <;> simp
theorem Al6 {x:Operand}:EO P r N ⟨dst,.move x,ty,pos,after,g⟩ s K=EOp r.b N dst s K (some (.pure (ev s.t x))):=C7 rfl rfl rfl
theorem Aio {x:Operand}:EO P r N ⟨dst,.assign x,ty,pos,after,g⟩ s K=EOp r.b N dst s K (some (.pure (ev s.t x))):=C7 rfl rfl rfl
def T5:AV→AV→AV→Option Eff
 | .p (.val (.bool b)),x,y=>some (.pure (if b=true then x else y))
 | _,_,_=>none
theorem Aqx {x y:AV}:T5 (bl true) x y=some (.pure x):=rfl
theorem Asm {x y:AV}:T5 (bl false) x y=some (.pure y):=rfl
theorem Ash {b:Bool} {x y:AV}:T5 (bl b) x y=some (.pure (if b=true then x else y)):=rfl
theorem Ari {c a b:Operand}:EO P r N ⟨dst,.pick c a b,ty,pos,after,g⟩ s K=EOp r.b N dst s K (T5 (ev s.t c) (ev s.t a) (ev s.t b)):=by
 refine C7 rfl rfl ?_
 cases h:ev s.t c with
 | p x=>cases x with
  | val v=>cases v <;> simp [eff,h,T5]
  | _=>simp [eff,h,T5]
 | _=>simp [eff,h,T5]
def Apu (d:Nat) (ti:TI):Option Eff:=if ti.zero.all Value.oneCell'∧ti.sz=ti.zero.length∧0 < ti.sz∧ti.agg.isSome then some (.new (.cells (Eb ti.zero)) (.ptr d 0)) else none
theorem Alx {t:TypeId}:EO P r N ⟨dst,.alloc t,ty,pos,after,g⟩ s K=EOp r.b N dst s K (Apu (r.b+dst.getD 0) (Ab P t)):=by
 exact C7 rfl rfl rfl
theorem Aw2 {cs:List AV}:AV.cs? (.agg cs)=some cs:=rfl
theorem Bdo {x:PV}:AV.cs? (.p x)=some [.p x]:=rfl
theorem Ayc {n o:Nat}:AV.cs? (.ptr n o)=some [.ptr n o]:=rfl
theorem Ayp {n o:Nat}:AV.cs? (.own n o)=some [.own n o]:=rfl
theorem Axb {n o k l:Nat}:AV.cs? (.csl n o k l)=some [.csl n o k l]:=rfl
theorem Bda {f:Fn} {a b:List AV}:AV.cs? (.fn f a b)=some [.fn f a b]:=rfl
theorem Bc7 {n:Nat}:AV.cs? (.mp n)=some [.mp n]:=rfl
theorem Axz {t:TypeId} {x:Operand}:EO P r N ⟨dst,.box t x,ty,pos,after,g⟩ s K=EOp r.b N dst s K ((ev s.t x).cs?.map fun cs=>.new (.cells cs) (.ptr (r.b+dst.getD 0) 0)):=by
 exact C7 rfl rfl rfl
def D6 (ag:Option Bool) (sz:Nat) (os:Nat→Option AO) (x:AV):Option Eff:=
 match ag with
  | none=>none
  | some g=>match x with
   | .ptr n off=>match os n with
    | some (.cells cs)=>(Ai g sz (cs.drop off)).map .pure
    | _=>none
   | .eptr n k i off=>match os n with
    | some (.arr k' es)=>if k=k'∧i < es.length then (Ai g sz (((es.getD i []).drop off).map .p)).map .pure else none
    | _=>none
   | .p (.ro cs)=>(Ai g sz (cs.map .p)).map .pure
   | _=>none
def U4 (g:Bool) (sz off:Nat):Option AO→Option Eff
 | some (.cells cs)=>(Ai g sz (cs.drop off)).map .pure
 | _=>none
def Tx (g:Bool) (sz k i off:Nat):Option AO→Option Eff
 | some (.arr k' es)=>if k=k'∧i < es.length then (Ai g sz (((es.getD i []).drop off).map .p)).map .pure else none
 | _=>none
theorem Ej {b:Bool} {sz n off:Nat}:D6 (some b) sz os (.ptr n off)=U4 b sz off (os n):=by unfold D6 U4; rfl
theorem Er {b:Bool} {sz n k i off:Nat}:D6 (some b) sz os (.eptr n k i off)=Tx b sz k i off (os n):=by unfold D6 Tx; rfl
theorem Jc {b:Bool} {sz:Nat} {cs:List PV}:D6 (some b) sz os (.p (.ro cs))=(Ai b sz (cs.map .p)).map .pure:=rfl
theorem Hk {b:Bool} {sz off:Nat} {cs:List AV}:U4 b sz off (some (.cells cs))=(Ai b sz (cs.drop off)).map .pure:=rfl
theorem Uq {b:Bool} {sz off k k' i:Nat} {es:List (List PV)}:Tx b sz k i off (some (.arr k' es))=if k=k'∧i < es.length then (Ai b sz (((es.getD i []).drop off).map .p)).map .pure else none:=rfl
theorem Ap4 {t:TypeId} {x:Operand}:EO P r N ⟨dst,.load t x,ty,pos,after,g⟩ s K=EOp r.b N dst s K (D6 (Ab P t).agg (Ab P t).sz s.o (ev s.t x)):=by
 exact C7 rfl rfl rfl
def Uf (ag:Option Bool) (sz:Nat) (os:Nat→Option AO) (x:AV) (v:Option (List AV)):Option Eff:=
 match v,ag with
  | some vs,some _=>if vs.length=sz then
    match x with
    | .ptr n off=>match os n with
     | some (.cells cs)=>if off+vs.length≤cs.length then some (.upd n (.cells (A0 cs off vs))) else none
     | _=>none
    | .eptr n k i off=>match os n,Lo vs with
     | some (.arr k' es),some ps=>if k=k'∧i < es.length∧off+ps.length≤k then some (.upd n (.arr k (es.set i (A0 (es.getD i []) off ps)))) else none
     | _,_=>none
    | _=>none
   else none
  | _,_=>none
def Z7 (n off:Nat) (vs:List AV):Option AO→Option Eff
 | some (.cells cs)=>if off+vs.length≤cs.length then some (.upd n (.cells (A0 cs off vs))) else none
 | _=>none
def Aal (n k i off:Nat):Option AO→Option (List PV)→Option Eff
 | some (.arr k' es),some ps=>if k=k'∧i < es.length∧off+ps.length≤k then some (.upd n (.arr k (es.set i (A0 (es.getD i []) off ps)))) else none
 | _,_=>none
theorem Afv {b:Bool} {sz n off:Nat} {vs:List AV}:Uf (some b) sz os (.ptr n off) (some vs)=if vs.length=sz then Z7 n off vs (os n) else none:=by unfold Uf Z7; rfl
theorem Ac6 {b:Bool} {sz n k i off:Nat} {vs:List AV}:Uf (some b) sz os (.eptr n k i off) (some vs)=if vs.length=sz then Aal n k i off (os n) (Lo vs) else none:=by unfold Uf Aal; rfl
theorem W2 {n off:Nat} {vs cs:List AV}:Z7 n off vs (some (.cells cs))=if off+vs.length≤cs.length then some (.upd n (.cells (A0 cs off vs))) else none:=rfl
theorem Abq {n k k' i off:Nat} {es:List (List PV)} {ps:List PV}:Aal n k i off (some (.arr k' es)) (some ps)=if k=k'∧i < es.length∧off+ps.length≤k then some (.upd n (.arr k (es.set i (A0 (es.getD i []) off ps)))) else none:=rfl
theorem Aln {t:TypeId} {x v:Operand}:EO P r N ⟨dst,.store t x v,ty,pos,after,g⟩ s K=EOp r.b N dst s K (Uf (Ab P t).agg (Ab P t).sz s.o (ev s.t x) (ev s.t v).cs?):=by
 exact C7 rfl rfl rfl
def fFA (x:AV) (ft:Nat→Nat):Option (Nat × Nat)→Option Eff
 | some (o,t)=>if ft t=0 then none else
    match x with
    | .ptr n off=>some (.pure (.ptr n (off+o)))
    | .eptr n k i off=>some (.pure (.eptr n k i (off+o)))
    | .p (.ro cs)=>some (.pure (.p (.ro (cs.drop o))))
    | _=>none
 | none=>none
def E3:TK→List (Nat × Nat)
 | .struct fs=>fs
 | _=>[]
theorem Ac4 {fs:List (Nat × Nat)}:E3 (.struct fs)=fs:=rfl
theorem Aqf {n off o t:Nat} {ft:Nat→Nat}:fFA (.ptr n off) ft (some (o,t))=if ft t=0 then none else some (.pure (.ptr n (off+o))):=rfl
theorem Alf {n k i off o t:Nat} {ft:Nat→Nat}:fFA (.eptr n k i off) ft (some (o,t))=if ft t=0 then none else some (.pure (.eptr n k i (off+o))):=rfl
theorem Aw9 {cs:List PV} {o t:Nat} {ft:Nat→Nat}:fFA (.p (.ro cs)) ft (some (o,t))=if ft t=0 then none else some (.pure (.p (.ro (cs.drop o)))):=rfl
theorem Aar {t:TypeId} {x:Operand} {f:Nat}:EO P r N ⟨dst,.fieldAddr t x f,ty,pos,after,g⟩ s K=EOp r.b N dst s K (fFA (ev s.t x) (fun t=>(Ab P t).sz) ((E3 (Ab P t).k)[f]?)):=by
 refine C7 rfl rfl ?_
 cases hk:(Ab P t).k with
 | struct fs=>
  simp only [eff,hk,E3]
  cases fs[f]? with
  | none=>rfl
  | some p=>rfl
 | _=>simp [eff,hk,E3,fFA]
def Wl (P:Program) (cs:Option (List AV)):Option (Nat × Nat)→Option Eff
 | some (o,ft)=>match cs,(Ab P ft).agg with
    | some cs,some g=>if o+(Ab P ft).sz≤cs.length then (Ai g (Ab P ft).sz (cs.drop o)).map .pure else none
    | _,_=>none
 | none=>none
def Zo:AV→Option (List AV)
 | .agg cs=>some cs
 | _=>none
theorem Ajh {cs:List AV}:Zo (.agg cs)=some cs:=rfl
def Aa0 (o sz:Nat) (ag:Option Bool) (cs:List AV):Option Eff:=match ag with
 | some g=>if o+sz≤cs.length then (Ai g sz (cs.drop o)).map .pure else none
 | none=>none
theorem Abl {o ft:Nat} {cs:List AV}:Wl P (some cs) (some (o,ft))=Aa0 o (Ab P ft).sz (Ab P ft).agg cs:=by unfold Wl Aa0; simp only []; cases (Ab P ft).agg <;> rfl
theorem Aa1 {o sz:Nat} {b:Bool} {cs:List AV}:Aa0 o sz (some b) cs=if o+sz≤cs.length then (Ai b sz (cs.drop o)).map .pure else none:=rfl
theorem Alq {t:TypeId} {x:Operand} {f:Nat}:EO P r N ⟨dst,.field t x f,ty,pos,after,g⟩ s K=EOp r.b N dst s K (Wl P (Zo (ev s.t x)) ((E3 (Ab P t).k)[f]?)):=by
 refine C7 rfl rfl ?_
 cases hk:(Ab P t).k with
 | struct fs=>
  cases hx:ev s.t x with
  | agg cs=>
   simp only [eff,hk,E3,hx,Zo]
   cases fs[f]? with
   | none=>rfl
   | some p=>simp only [Wl]; cases (Ab P p.2).agg <;> rfl
  | _=>
   simp only [eff,hk,E3,hx,Zo]
   cases fs[f]? with
   | none=>rfl
   | some p=>rfl
 | _=>cases hx:ev s.t x <;> simp [eff,hk,E3,Wl,hx]
def fIA (esz:Nat→Nat) (ea:Nat→Bool) (os:Nat→Option AO) (x:AV):TK→AV→Option Eff
 | .sl e,.p (.val (.int _ n))=>match x with
   | .p (.sl es)=>if 0≤n∧n < es.length∧(es.getD n.toNat []).length=esz e∧ea e then some (.pure (.p (.ro (es.getD n.toNat [])))) else none
   | .own m len=>match os m with
    | some (.arr k es)=>if 0≤n∧n < len∧len≤es.length∧k=esz e∧ea e then some (.pure (.eptr m k n.toNat 0)) else none
    | _=>none
   | .csl m off k len=>if 0≤n∧n < len∧k=esz e∧ea e then some (.pure (.ptr m (off+n.toNat * k))) else none
   | _=>none
 | .arr len e,.p (.val (.int _ n))=>match x with
   | .ptr m off=>if 0≤n∧n < len∧ea e then some (.pure (.ptr m (off+n.toNat * esz e))) else none
   | .p (.ro cs)=>if 0≤n∧n < len∧ea e then some (.pure (.p (.ro (cs.drop (n.toNat * esz e))))) else none
   | _=>none
 | _,_=>none
def Ayw (esz:Nat) (ea:Bool) (m len:Nat) (n:Int):Option AO→Option Eff
 | some (.arr k es)=>if 0≤n∧n < len∧len≤es.length∧k=esz∧ea then some (.pure (.eptr m k n.toNat 0)) else none
 | _=>none
theorem Ax4 {esz:Nat→Nat} {ea:Nat→Bool} {e:Nat} {k:IntKind} {n:Int} {es:List (List PV)}:fIA esz ea os (.p (.sl es)) (.sl e) (.p (.val (.int k n)))=if 0≤n∧n < es.length∧(es.getD n.toNat []).length=esz e∧ea e then some (.pure (.p (.ro (es.getD n.toNat [])))) else none:=rfl
theorem Th {esz:Nat→Nat} {ea:Nat→Bool} {e m len:Nat} {k:IntKind} {n:Int}:fIA esz ea os (.own m len) (.sl e) (.p (.val (.int k n)))=Ayw (esz e) (ea e) m len n (os m):=by unfold fIA Ayw; rfl
theorem Ao7 {esz:Nat} {ea:Bool} {k m len:Nat} {n:Int} {es:List (List PV)}:Ayw esz ea m len n (some (.arr k es))=if 0≤n∧n < len∧len≤es.length∧k=esz∧ea then some (.pure (.eptr m k n.toNat 0)) else none:=rfl
theorem Ap9 {esz:Nat→Nat} {ea:Nat→Bool} {e m off k' len:Nat} {k:IntKind} {n:Int}:fIA esz ea os (.csl m off k' len) (.sl e) (.p (.val (.int k n)))=if 0≤n∧n < len∧k'=esz e∧ea e then some (.pure (.ptr m (off+n.toNat * k'))) else none:=rfl
theorem Aqr {esz:Nat→Nat} {ea:Nat→Bool} {e m off len:Nat} {k:IntKind} {n:Int}:fIA esz ea os (.ptr m off) (.arr len e) (.p (.val (.int k n)))=if 0≤n∧n < len∧ea e then some (.pure (.ptr m (off+n.toNat * esz e))) else none:=rfl
theorem Aj3 {esz:Nat→Nat} {ea:Nat→Bool} {e len:Nat} {k:IntKind} {n:Int} {cs:List PV}:fIA esz ea os (.p (.ro cs)) (.arr len e) (.p (.val (.int k n)))=if 0≤n∧n < len∧ea e then some (.pure (.p (.ro (cs.drop (n.toNat * esz e))))) else none:=rfl
theorem Aa6 {t:TypeId} {x i:Operand}:EO P r N ⟨dst,.indexAddr t x i,ty,pos,after,g⟩ s K=EOp r.b N dst s K (fIA (fun e=>(Ab P e).sz) (fun e=>(Ab P e).agg.isSome) s.o (ev s.t x) (Ab P t).k (ev s.t i)):=by
 refine C7 rfl rfl ?_
 unfold eff fIA
 rfl
def Afo (esz:Nat→Nat) (ea:Nat→Option Bool) (x:AV):TK→AV→Option Eff
 | .arr len e,.p (.val (.int _ n))=>match x,ea e with
  | .agg cs,some g=>if 0≤n∧n < len∧n.toNat * esz e+esz e≤cs.length then (Ai g (esz e) (cs.drop (n.toNat * esz e))).map .pure else none
  | _,_=>none
 | _,_=>none
noncomputable def F0 (P:Program) (t:TypeId) (op:BinOp) (k:TK):AV→AV→Option Eff
 | .p (.val (.bool a)),.p (.val (.bool b))=>match k with
   | .bool=>(Ago op a b).map fun v=>.pure (.p (.val v))
   | _=>none
 | .p (.val a),.p (.val b)=>(Jb op a b).map fun v=>.pure (.p (.val v))
 | .agg cs,.agg ds=>G2 P op t (Cn cs) (Cn ds)
 | _,_=>none
theorem Alt {t:TypeId} {op:BinOp} {k:TK} {cs ds:List AV}:F0 P t op k (.agg cs) (.agg ds)=G2 P op t (Cn cs) (Cn ds):=rfl
theorem Ae7:Cn []=some []:=rfl
theorem Abx {n:Int} {r:List AV}:Cn (.p (.val (.int .i64 n)) :: r)=(Cn r).map (n :: ·):=rfl
theorem Nk {t:TypeId} {a b:List Int} (h:Mh P t a.length) (hl:a.length=b.length) (ha:a.all inR=true) (hb:b.all inR=true):G2 P .eql t (some a) (some b)=some (.pure (bl (decide (a=b)))):=by
 unfold G2; simp only []; rw [if_pos ⟨h,hl,ha,hb⟩]
theorem Yl {t:TypeId} {a b:List Int} (h:Mh P t a.length) (hl:a.length=b.length) (ha:a.all inR=true) (hb:b.all inR=true):G2 P .neq t (some a) (some b)=some (.pure (bl (!decide (a=b)))):=by
 unfold G2; simp only []; rw [if_pos ⟨h,hl,ha,hb⟩]
theorem Aoj {op:BinOp} {t u:TypeId} {x y:Operand}:EO P r N ⟨dst,.binOp op t x y u,ty,pos,after,g⟩ s K=EOp r.b N dst s K (F0 P t op (Ab P t).k (ev s.t x) (ev s.t y)):=by
 exact C7 rfl rfl rfl
theorem Aoe {t:TypeId} {k:TK} {a b:Int} {i:IntKind}:F0 P t .add k (.p (.val (.int i a))) (.p (.val (.int i b)))=some (.pure (.p (.val (.int i (i.wrap (a+b)))))):=by simp [F0,Jb,Gz]
theorem Apv {t:TypeId} {k:TK} {a b:Int} {i:IntKind}:F0 P t .sub k (.p (.val (.int i a))) (.p (.val (.int i b)))=some (.pure (.p (.val (.int i (i.wrap (a - b)))))):=by simp [F0,Jb,Gz]
theorem Aod {t:TypeId} {k:TK} {a b:Int} {i:IntKind}:F0 P t .mul k (.p (.val (.int i a))) (.p (.val (.int i b)))=some (.pure (.p (.val (.int i (i.wrap (a * b)))))):=by simp [F0,Jb,Gz]
theorem Anu {t:TypeId} {k:TK} {a b:Int} {i:IntKind}:F0 P t .quo k (.p (.val (.int i a))) (.p (.val (.int i b)))=if b=0 then none else some (.pure (.p (.val (.int i (i.wrap (a.tdiv b)))))):=by simp only [F0,Jb,Gz,if_true]; split <;> rfl
theorem Aoa {t:TypeId} {k:TK} {a b:Int} {i:IntKind}:F0 P t .rem k (.p (.val (.int i a))) (.p (.val (.int i b)))=if b=0 then none else some (.pure (.p (.val (.int i (a.tmod b))))):=by simp only [F0,Jb,Gz,if_true]; split <;> rfl
theorem Apj {t:TypeId} {k:TK} {a b:Int} {i:IntKind}:F0 P t .eql k (.p (.val (.int i a))) (.p (.val (.int i b)))=some (.pure (bl (decide (a=b)))):=by simp [F0,Jb,Gz]; rfl
theorem Ap0 {t:TypeId} {k:TK} {a b:Int} {i:IntKind}:F0 P t .neq k (.p (.val (.int i a))) (.p (.val (.int i b)))=some (.pure (bl (decide (a≠b)))):=by simp [F0,Jb,Gz,bne]; rfl
theorem Aol {t:TypeId} {k:TK} {a b:Int} {i:IntKind}:F0 P t .lss k (.p (.val (.int i a))) (.p (.val (.int i b)))=some (.pure (bl (decide (a < b)))):=by simp [F0,Jb,Gz]
theorem Am0 {t:TypeId} {k:TK} {a b:Int} {i:IntKind}:F0 P t .leq k (.p (.val (.int i a))) (.p (.val (.int i b)))=some (.pure (bl (decide (a≤b)))):=by simp [F0,Jb,Gz]
theorem Aow {t:TypeId} {k:TK} {a b:Int} {i:IntKind}:F0 P t .gtr k (.p (.val (.int i a))) (.p (.val (.int i b)))=some (.pure (bl (decide (b < a)))):=by simp [F0,Jb,Gz]
theorem An1 {t:TypeId} {k:TK} {a b:Int} {i:IntKind}:F0 P t .geq k (.p (.val (.int i a))) (.p (.val (.int i b)))=some (.pure (bl (decide (b≤a)))):=by simp [F0,Jb,Gz]
theorem Anl {t:TypeId} {k:TK} {a b:Int} {i j:IntKind}:F0 P t .shl k (.p (.val (.int i a))) (.p (.val (.int j b)))=if b < 0 then none else some (.pure (.p (.val (.int i (i.wrap (a * 2 ^ (min b.toNat i.bits))))))):=by simp only [F0,Jb,Q6]; split <;> rfl
theorem Anb {t:TypeId} {k:TK} {a b:Int} {i j:IntKind}:F0 P t .shr k (.p (.val (.int i a))) (.p (.val (.int j b)))=if b < 0 then none else some (.pure (.p (.val (.int i (a.fdiv (2 ^ (min b.toNat i.bits))))))):=by simp only [F0,Jb,Q6]; split <;> rfl
theorem Alh {t:TypeId} {a b:Bool}:F0 P t .eql .bool (bl a) (bl b)=some (.pure (bl (a == b))):=rfl
theorem Apz {t:TypeId} {a b:Bool}:F0 P t .neq .bool (bl a) (bl b)=some (.pure (bl (a != b))):=rfl
def fUn:UnOp→AV→Option Eff
  | .not,.p (.val (.bool b))=>some (.pure (.p (.val (.bool !b))))
  | .neg,.p (.val (.int k n))=>some (.pure (.p (.val (.int k (k.wrap (0 - n))))))
  | _,_=>none
theorem Ar9 {b:Bool}:fUn .not (bl b)=some (.pure (bl !b)):=rfl
theorem Aq3 {k:IntKind} {n:Int}:fUn .neg (.p (.val (.int k n)))=some (.pure (.p (.val (.int k (k.wrap (0 - n)))))):=rfl
theorem Ap1 {op:UnOp} {t:TypeId} {x:Operand}:EO P r N ⟨dst,.unOp op t x,ty,pos,after,g⟩ s K=EOp r.b N dst s K (fUn op (ev s.t x)):=by
 exact C7 rfl rfl rfl
def Avs (ag:Bool):TK→AV→Option Eff
  | .int k,.p (.val (.int _ n))=>if ag then some (.pure (.p (.val (.int k (k.wrap n))))) else none
  | _,_=>none
theorem Aj4 {ag:Bool} {k i:IntKind} {n:Int}:Avs ag (.int k) (.p (.val (.int i n)))=if ag then some (.pure (.p (.val (.int k (k.wrap n))))) else none:=rfl
theorem Aek {u t:TypeId} {x:Operand}:EO P r N ⟨dst,.convert u t x,ty,pos,after,g⟩ s K=EOp r.b N dst s K (Avs (Ab P u).agg.isSome (Ab P t).k (ev s.t x)):=by
 exact C7 rfl rfl rfl
def Aql:AV→Option Eff
  | .ptr n off=>some (.pure (.ptr n off))
  | .eptr n k i off=>some (.pure (.eptr n k i off))
  | .p (.ro cs)=>some (.pure (.p (.ro cs)))
  | _=>none
theorem Alo {n off:Nat}:Aql (.ptr n off)=some (.pure (.ptr n off)):=rfl
theorem Akg {n k i off:Nat}:Aql (.eptr n k i off)=some (.pure (.eptr n k i off)):=rfl
theorem Aqe {cs:List PV}:Aql (.p (.ro cs))=some (.pure (.p (.ro cs))):=rfl
theorem Adc {x:Operand}:EO P r N ⟨dst,.nilCheck x,ty,pos,after,g⟩ s K=EOp r.b N dst s K (Aql (ev s.t x)):=by
 exact C7 rfl rfl rfl
def Bb1 (i:Nat):AV→Option Eff
  | .tup vs=>(vs[i]?).map .pure
  | _=>none
theorem Amj {i:Nat} {vs:List AV}:Bb1 i (.tup vs)=(vs[i]?).map .pure:=rfl
theorem Agf {x:Operand} {i:Nat}:EO P r N ⟨dst,.extract x i,ty,pos,after,g⟩ s K=EOp r.b N dst s K (Bb1 i (ev s.t x)):=by
 exact C7 rfl rfl rfl
theorem Acp {f:Fn} {a b:Array Operand}:EO P r N ⟨dst,.makeFunc f a b,ty,pos,after,g⟩ s K=EOp r.b N dst s K (some (.pure (.fn f (a.toList.map (ev s.t)) (b.toList.map (ev s.t))))):=C7 rfl rfl rfl
def Ai2:TK→AV→Option Eff
 | .sl _,x=>match x with
     | .own _ len=>some (.pure (.p (.val (.int .i64 len))))
     | .csl _ _ _ len=>some (.pure (.p (.val (.int .i64 len))))
     | .p x=>x.list?.map fun es=>.pure (.p (.val (.int .i64 es.length)))
     | _=>none
 | .arr n _,_=>some (.pure (.p (.val (.int .i64 n))))
 | _,_=>none
theorem Aou {e n len:Nat}:Ai2 (.sl e) (.own n len)=some (.pure (i64 len)):=rfl
theorem Am9 {e n o k len:Nat}:Ai2 (.sl e) (.csl n o k len)=some (.pure (i64 len)):=rfl
theorem Aqd {e:Nat} {es:List (List PV)}:Ai2 (.sl e) (.p (.sl es))=some (.pure (i64 es.length)):=rfl
theorem Aop {e:Nat}:Ai2 (.sl e) (.p (.val (.slice none 0 0)))=some (.pure (i64 0)):=rfl
theorem Al3 {n e:Nat} {x:AV}:Ai2 (.arr n e) x=some (.pure (i64 n)):=rfl
theorem Ayn {t:TypeId} {x:Operand}:EO P r N ⟨dst,.call ⟨.builtin .len,#[x],#[t]⟩,ty,pos,after,g⟩ s K=EOp r.b N dst s K (Ai2 (Ab P t).k (ev s.t x)):=by
 refine C7 rfl rfl ?_
 show (match (Ab P t).k with | .sl _=>_ | .arr n _=>_ | _=>_)=_
 cases (Ab P t).k <;> rfl
def Aim (d:Nat) (ti:TI) (os:Nat→Option AO) (x:AV):Option (List (List PV))→Option Eff
 | some xs=>if ti.agg.isSome∧(xs.all fun c=>c.length=ti.sz)∧ti.sz=ti.zero.length∧0 < ti.sz∧ti.zero.all Value.oneCell' then
      match x with
      | .p (.val (.slice none 0 0))=>if xs.length * ti.bytes≤140737488355328∧xs.length≤9223372036854775807 then some (.new (.arr ti.sz xs) (.own d xs.length)) else none
      | .own n len=>match os n with
       | some (.arr k es)=>if k=ti.sz∧len=es.length∧(es.length+xs.length) * ti.bytes≤140737488355328∧es.length+xs.length≤9223372036854775807 then some (.app n (.arr k (es++xs)) (.own d (len+xs.length))) else none
       | _=>none
      | _=>none
      else none
 | none=>none
def Anq (d n len sz bytes:Nat) (xs:List (List PV)):Option AO→Option Eff
 | some (.arr k es)=>if k=sz∧len=es.length∧(es.length+xs.length) * bytes≤140737488355328∧es.length+xs.length≤9223372036854775807 then some (.app n (.arr k (es++xs)) (.own d (len+xs.length))) else none
 | _=>none
theorem Ame {d:Nat} {ti:TI} {xs:List (List PV)}:Aim d ti os (.p (.val (.slice none 0 0))) (some xs)=if (ti.agg.isSome∧(xs.all fun c=>c.length=ti.sz)∧ti.sz=ti.zero.length∧0 < ti.sz∧ti.zero.all Value.oneCell')∧xs.length * ti.bytes≤140737488355328∧xs.length≤9223372036854775807 then some (.new (.arr ti.sz xs) (.own d xs.length)) else none:=by
 unfold Aim; simp only []
 split
 ·rename_i h
  split
  ·rename_i h2; rw [if_pos ⟨h,h2⟩]
  ·rename_i h2; rw [if_neg (fun hc=>h2 hc.2)]
 ·rename_i h; rw [if_neg (fun hc=>h hc.1)]
theorem Al7 {d n len:Nat} {ti:TI} {xs:List (List PV)}:Aim d ti os (.own n len) (some xs)=if (ti.agg.isSome∧(xs.all fun c=>c.length=ti.sz)∧ti.sz=ti.zero.length∧0 < ti.sz∧ti.zero.all Value.oneCell') then Anq d n len ti.sz ti.bytes xs (os n) else none:=by
 unfold Aim Anq; rfl
theorem Akp {d n len sz bytes k:Nat} {xs es:List (List PV)}:Anq d n len sz bytes xs (some (.arr k es))=if k=sz∧len=es.length∧(es.length+xs.length) * bytes≤140737488355328∧es.length+xs.length≤9223372036854775807 then some (.app n (.arr k (es++xs)) (.own d (len+xs.length))) else none:=rfl
def Aaj:TK→Option Nat
 | .sl e=>some e
 | _=>none
theorem Aju {e:Nat}:Aaj (.sl e)=some e:=rfl
def Ati (P:Program) (d:Nat) (os:Nat→Option AO) (x:AV) (xs:Option (List (List PV))):Option Nat→Option Nat→Option Eff
 | some e,some _=>Aim d (Ab P e) os x xs
 | _,_=>none
theorem Af7 {d e e':Nat} {x:AV} {xs:Option (List (List PV))}:Ati P d os x xs (some e) (some e')=Aim d (Ab P e) os x xs:=rfl
theorem Aka {t t':TypeId} {x y:Operand}:EO P r N ⟨dst,.call ⟨.builtin .append,#[x,y],#[t,t']⟩,ty,pos,after,g⟩ s K=EOp r.b N dst s K (Ati P (r.b+dst.getD 0) s.o (ev s.t x) (C4 s.o (ev s.t y)) (Aaj (Ab P t).k) (Aaj (Ab P t').k)):=by
 refine C7 rfl rfl ?_
 show (match (Ab P t).k,(Ab P t').k with | .sl e,.sl _=>_ | _,_=>_)=_
 cases (Ab P t).k <;> cases (Ab P t').k <;> simp only [Aaj] <;> rfl
theorem Bdt {x:PV}:C4 os (.p x)=x.list?:=rfl
theorem Ase {es:List (List PV)}:PV.list? (.sl es)=some es:=rfl
theorem Am8:PV.list? (.val (.slice none 0 0))=some []:=rfl
theorem Axj {a:Array Operand} {ts:Array TypeId}:EO P r N ⟨dst,.call ⟨.builtin .min,a,ts⟩,ty,pos,after,g⟩ s K=EOp r.b N dst s K ((B6 (fun x y=>if y < x then y else x) (a.toList.map (ev s.t))).map fun v=>.pure (.p (.val v))):=C7 rfl rfl rfl
theorem Ayl {a:Array Operand} {ts:Array TypeId}:EO P r N ⟨dst,.call ⟨.builtin .max,a,ts⟩,ty,pos,after,g⟩ s K=EOp r.b N dst s K ((B6 (fun x y=>if x < y then y else x) (a.toList.map (ev s.t))).map fun v=>.pure (.p (.val v))):=C7 rfl rfl rfl
variable {all rest:List Oper} {o:Oper} {op:Op}
def EK (P:Program) (r:RB) (N:Nat) (all rest:List Oper) (K:St→Prop) (s:St):Prop:=EL P r N all rest s K
theorem Bce {t:Nat→AV} {o:Nat→Option AO}:EK P r N all rest K ⟨t,o⟩=EL P r N all rest ⟨t,o⟩ K:=rfl
theorem ELg:EL P r N all (⟨dst,op,ty,pos,after,none⟩ :: rest) s K=EO P r N ⟨dst,op,ty,pos,after,none⟩ s (EK P r N all rest K):=rfl
theorem Bbd:EG P r N all rest o true s K (bl true)=(Bx N o.dst=true∧EO P r N o s (EK P r N all rest K)):=by simp only [EG]; first | (simp; done) | (simp; intro _; rfl)
theorem Bbq:EG P r N all rest o false s K (bl false)=(Bx N o.dst=true∧EO P r N o s (EK P r N all rest K)):=by simp only [EG]; first | (simp; done) | (simp; intro _; rfl)
theorem Bap:EG P r N all rest o true s K (bl false)=(Bx N o.dst=true∧EL P r N all rest (s.put o.dst Cg) K):=by simp only [EG]; first | (simp; done) | (simp; intro _; rfl)
theorem Bbj:EG P r N all rest o false s K (bl true)=(Bx N o.dst=true∧EL P r N all rest (s.put o.dst Cg) K):=by simp only [EG]; first | (simp; done) | (simp; intro _; rfl)
theorem E0 {want:Bool} {p:Prop} [Decidable p] (h1:p→EG P r N all rest o want s K (bl true)) (h2:¬ p→EG P r N all rest o want s K (bl false)):EG P r N all rest o want s K (bl (decide p)):=by
 by_cases h:p
 ·rw [decide_eq_true h]; exact h1 h
 ·rw [decide_eq_false h]; exact h2 h
theorem Cz {want b:Bool} (h1:b=true→EG P r N all rest o want s K (bl true)) (h2:b=false→EG P r N all rest o want s K (bl false)):EG P r N all rest o want s K (bl b):=by
 cases b
 ·exact h2 rfl
 ·exact h1 rfl
end
def qop:Op→Bool
 | .move _ | .assign _ | .pick .. | .binOp .. | .unOp .. | .convert .. | .extract .. | .makeFunc .. | .field .. | .index .. | .fieldAddr .. | .nilCheck _ | .load .. | .indexAddr .. | .alloc _ | .box .. | .build .. | .buildSlice .. | .makeSlice ..=>true
 | .slice _ _ _ _ none=>true
 | .slice _ _ _ (some _) (some _)=>true
 | .call ⟨.builtin .len,_,_⟩=>true
 | .call ⟨.builtin .min,_,_⟩=>true
 | .call ⟨.builtin .max,_,_⟩=>true
 | .call ⟨.value (.func _),_,_⟩=>true
 | _=>false
structure Agx (op:Op) (ρ ρ':Operand→AV) (os os':Nat→Option AO):Prop where
 t:∀ x ∈ op.operands.toList,ρ' x=ρ x
 o:∀ x ∈ op.operands.toList,∀ n,(ρ x).clean n=false→os' n=os n
section
variable {P:Program} {d:Nat} {op:Op} {ρ ρ':Operand→AV} {os os':Nat→Option AO}
theorem Mq {ag:Option Bool} {sz:Nat} {x:AV} (h:∀ n,x.clean n=false→os' n=os n):D6 ag sz os' x=D6 ag sz os x:=by
 cases ag with
 | none=>rfl
 | some b=>cases x with
  | ptr n off=>rw [Ej,Ej,h n (by simp [AV.clean])]
  | eptr n k i off=>rw [Er,Er,h n (by simp [AV.clean])]
  | p x=>cases x <;> rfl
  | _=>rfl
theorem Aj1 {esz:Nat→Nat} {ea:Nat→Bool} {x y:AV} {k:TK} (h:∀ n,x.clean n=false→os' n=os n):fIA esz ea os' x k y=fIA esz ea os x k y:=by
 cases k with
 | sl e=>cases y with
  | p y=>cases y with
   | val v=>cases v with
    | int i n=>cases x with
     | own m len=>rw [Th,Th,h m (by simp [AV.clean])]
     | p x=>cases x <;> rfl
     | _=>rfl
    | _=>rfl
   | _=>rfl
  | _=>rfl
 | arr n e=>cases y with
  | p y=>cases y with
   | val v=>cases v with
    | int i n=>cases x with
     | p x=>cases x <;> rfl
     | _=>rfl
    | _=>rfl
   | _=>rfl
  | _=>rfl
 | _=>rfl
theorem J3 {l:List Operand} (h:∀ x ∈ l,ρ' x=ρ x):l.map ρ'=l.map ρ:=List.map_congr_left h
theorem Si {l:List (Nat × Operand)} (h:∀ p ∈ l,ρ' p.2=ρ p.2):l.map (fun p=>(p.1,ρ' p.2))=l.map (fun p=>(p.1,ρ p.2)):=List.map_congr_left fun p hp=>by rw [h p hp]
theorem Kw (hq:qop op=true) (hg:Cc op=false) (h:Agx op ρ ρ' os os'):eff P d op ρ' os'=eff P d op ρ os:=by
 have ht:=h.t
 have ho:=h.o
 cases op with
 | move x=>show some (Eff.pure (ρ' x))=some (.pure (ρ x)); rw [ht x (by simp [Op.operands])]
 | assign x=>show some (Eff.pure (ρ' x))=some (.pure (ρ x)); rw [ht x (by simp [Op.operands])]
 | pick c a b=>simp only [eff,ht c (by simp [Op.operands]),ht a (by simp [Op.operands]),ht b (by simp [Op.operands])]
 | alloc t=>rfl
 | box t x=>simp only [eff,ht x (by simp [Op.operands])]
 | load t x=>
  have e:∀ (ρ:Operand→AV) os,eff P d (.load t x) ρ os=D6 (Ab P t).agg (Ab P t).sz os (ρ x):=fun _ _=>rfl
  rw [e,e,ht x (by simp [Op.operands]),Mq (ho x (by simp [Op.operands]))]
 | fieldAddr t x f=>simp only [eff,ht x (by simp [Op.operands])]
 | field t x f=>simp only [eff,ht x (by simp [Op.operands])]
 | indexAddr t x i=>
  have e:∀ (ρ:Operand→AV) os,eff P d (.indexAddr t x i) ρ os=fIA (fun e=>(Ab P e).sz) (fun e=>(Ab P e).agg.isSome) os (ρ x) (Ab P t).k (ρ i):=fun _ _=>rfl
  rw [e,e,ht x (by simp [Op.operands]),ht i (by simp [Op.operands]),Aj1 (ho x (by simp [Op.operands]))]
 | index t x i=>simp only [eff,ht x (by simp [Op.operands]),ht i (by simp [Op.operands])]
 | binOp b t x y u=>simp only [eff,ht x (by simp [Op.operands]),ht y (by simp [Op.operands])]
 | unOp b t x=>simp only [eff,ht x (by simp [Op.operands])]
 | convert u t x=>simp only [eff,ht x (by simp [Op.operands])]
 | nilCheck x=>simp only [eff,ht x (by simp [Op.operands])]
 | extract x i=>simp only [eff,ht x (by simp [Op.operands])]
 | makeFunc f a b=>
  have h1:a.toList.map ρ'=a.toList.map ρ:=J3 fun x hx=>ht x (by simp [Op.operands]; left; simpa using hx)
  have h2:b.toList.map ρ'=b.toList.map ρ:=J3 fun x hx=>ht x (by simp [Op.operands]; right; simpa using hx)
  simp only [eff,h1,h2]
 | build t parts=>
  have h1:=Si (ρ:=ρ) (ρ':=ρ') (l:=parts.toList) fun p hp=>ht p.2 (by simp [Op.operands]; exact ⟨p.1,by simpa using hp⟩)
  simp only [eff,h1]
 | buildSlice t n parts=>
  have h1:=Si (ρ:=ρ) (ρ':=ρ') (l:=parts.toList) fun p hp=>ht p.2 (by simp [Op.operands]; exact ⟨p.1,by simpa using hp⟩)
  simp only [eff,h1]
 | makeSlice t l c=>simp only [eff,ht l (by simp [Op.operands]),ht c (by simp [Op.operands])]
 | slice t x lo hi m=>
  cases m with
  | some m=>
   cases hi with
   | none=>simp [qop] at hq
   | some hi=>
    have h0:ρ' x=ρ x:=ht x (by simp [Op.operands])
    have h2:ρ' hi=ρ hi:=ht hi (by simp [Op.operands])
    have h3:ρ' m=ρ m:=ht m (by simp [Op.operands])
    have h1:A9 ρ' 0 lo=A9 ρ 0 lo:=by
     cases lo with
     | none=>rfl
     | some z=>simp only [A9,ht z (by simp [Op.operands])]
    have h4:A9 ρ' 0 (some hi)=A9 ρ 0 (some hi):=by simp only [A9,h2]
    have h5:A9 ρ' 0 (some m)=A9 ρ 0 (some m):=by simp only [A9,h3]
    simp only [eff,h0,h1,h4,h5]
  | none=>
   have hb:∀ (dflt:Nat) (y:Option Operand),(∀ z,y=some z→ρ' z=ρ z)→A9 ρ' dflt y=A9 ρ dflt y:=fun dflt y hy=>by
    cases y with
    | none=>rfl
    | some z=>simp only [A9,hy z rfl]
   have h0:ρ' x=ρ x:=ht x (by simp [Op.operands])
   have h1:∀ n,A9 ρ' n lo=A9 ρ n lo:=fun n=>hb n lo (fun z hz=>ht z (by subst hz; simp [Op.operands]))
   have h2:∀ n,A9 ρ' n hi=A9 ρ n hi:=fun n=>hb n hi (fun z hz=>ht z (by subst hz; simp [Op.operands]))
   simp only [eff,h0,h1,h2]
 | call c=>
  obtain ⟨callee,args,ts⟩:=c
  have hm:args.toList.map ρ'=args.toList.map ρ:=J3 fun x hx=>ht x (by simp [Op.operands,Call.operands]; right; simpa using hx)
  cases callee with
  | value f=>simp [Cc] at hg
  | invoke r m=>simp [qop] at hq
  | builtin b=>
   cases b <;> first | (simp [qop] at hq; done) | skip
   ·
    simp only [eff]
    cases hts:ts.toList with
    | nil=>rfl
    | cons t r=>cases r with
     | cons _ _=>rfl
     | nil=>cases hargs:args.toList with
      | nil=>rfl
      | cons x r=>cases r with
       | cons _ _=>rfl
       | nil=>
        have e:ρ' x=ρ x:=ht x (by simp [Op.operands,Call.operands]; rw [← Array.mem_toList_iff,hargs]; simp)
        simp only [e]
   ·simp only [eff,hm]
   ·simp only [eff,hm]
 | _=>simp [qop] at hq
end
theorem Kr {s:St} (h:s.closed) (x:Operand):(ev s.t x).lives s.o:=by
 cases x with
 | tmp i=>exact h.1 i
 | const v=>
  simp only [ev]
  cases v <;> first
   | exact AV.lives_p _ _
   | skip
  ·unfold Bc
   dsimp only
   split
   ·rw [AV.lives_agg]
    intro i x hi
    simp only [List.getElem?_map,Option.map_eq_some_iff] at hi
    obtain ⟨y,hy,rfl⟩:=hi
    exact AV.lives_p _ _
   ·exact AV.lives_undef _
  ·exact AV.lives_undef _
 | global g=>exact AV.lives_undef _
 | func f=>intro n hn; simp [ev,AV.clean,AV.clean.cleanL] at hn
def Bb6 (os:Nat→Option AO) (d:Nat):Eff→Prop
 | .pure x=>x.lives os
 | .new a x=>a.lives os∧∀ n,x.clean n=false→n=d
 | _=>False
def L8 (os:Nat→Option AO) (d:Nat) (e:Option Eff):Prop:=∀ e',e=some e'→Bb6 os d e'
section
variable {P:Program} {d:Nat} {op:Op} {s:St} {os:Nat→Option AO}
theorem Ae:L8 os d none:=fun e h=>by cases h
theorem Bz {e:Eff} (h:Bb6 os d e):L8 os d (some e):=fun e' h'=>by cases h'; exact h
theorem Ck {c:Prop} [Decidable c] {a b:Option Eff} (h1:c→L8 os d a) (h2:L8 os d b):L8 os d (if c then a else b):=by
 split
 ·exact h1 ‹_›
 ·exact h2
theorem Em {x:PV}:L8 os d (some (.pure (.p x))):=Bz (AV.lives_p _ _)
theorem Gy {g:Bool} {sz:Nat} {cs:List AV} (h:∀ (i:Nat) (y:AV),cs[i]?=some y→y.lives os):L8 os d ((Ai g sz cs).map .pure):=by
 intro e he
 obtain ⟨x,hx,rfl⟩:=Option.map_eq_some_iff.1 he
 exact Fj h hx
theorem Li {v:Option Value}:L8 os d (v.map fun v=>.pure (.p (.val v))):=by
 intro e he
 obtain ⟨x,hx,rfl⟩:=Option.map_eq_some_iff.1 he
 exact AV.lives_p _ _
theorem Vs {cs:List PV}:∀ (i:Nat) (y:AV),(cs.map AV.p)[i]?=some y→y.lives os:=by
 intro i y h
 simp only [List.getElem?_map,Option.map_eq_some_iff] at h
 obtain ⟨z,_,rfl⟩:=h
 exact AV.lives_p _ _
theorem Pq {cs:List AV} {k:Nat} (h:∀ (i:Nat) (y:AV),cs[i]?=some y→y.lives os):∀ (i:Nat) (y:AV),(cs.drop k)[i]?=some y→y.lives os:=by
 intro i y hi
 rw [List.getElem?_drop] at hi
 exact h _ y hi
theorem Ahc {l:List Operand} (h:s.closed):∀ (i:Nat) (y:AV),(l.map (ev s.t))[i]?=some y→y.lives s.o:=by
 intro i y hi
 simp only [List.getElem?_map,Option.map_eq_some_iff] at hi
 obtain ⟨z,_,rfl⟩:=hi
 exact Kr h z
theorem Gd {x y:AV} (hx:x.lives os) (h:∀ n,y.clean n=false→x.clean n=false):y.lives os:=fun n hn=>hx n (h n hn)
theorem R0 {ag:Option Bool} {sz:Nat} {x:AV} (hc:s.closed):L8 s.o d (D6 ag sz s.o x):=by
 cases ag with
 | none=>exact Ae
 | some b=>cases x with
  | ptr n off=>
   rw [Ej]
   cases hn:s.o n with
   | none=>exact Ae
   | some o=>cases o with
    | cells cs=>exact Gy (Pq (AO.lives_cells.1 (hc.2 n _ hn)))
    | arr k es=>exact Ae
    | obj X=>exact Ae
    | it k X=>exact Ae
    | loop k tm=>exact Ae
  | eptr n k i off=>
   rw [Er]
   cases hn:s.o n with
   | none=>exact Ae
   | some o=>cases o with
    | cells cs=>exact Ae
    | arr k es=>exact Ck (fun _=>Gy Vs) Ae
    | obj X=>exact Ae
    | it k X=>exact Ae
    | loop k tm=>exact Ae
  | p x=>cases x with
   | ro cs=>exact Gy Vs
   | _=>exact Ae
  | _=>exact Ae
theorem Ar2 {x:AV} {ft:Nat→Nat} {o:Option (Nat × Nat)} (hx:x.lives os):L8 os d (fFA x ft o):=by
 cases o with
 | none=>exact Ae
 | some p=>
  obtain ⟨o,t⟩:=p
  unfold fFA
  simp only []
  split
  ·exact Ae
  ·cases x with
   | ptr n off=>exact Bz (Gd hx fun m hm=>by simpa [AV.clean] using hm)
   | eptr n k i off=>exact Bz (Gd hx fun m hm=>by simpa [AV.clean] using hm)
   | p x=>cases x with
    | ro cs=>exact Em
    | _=>exact Ae
   | _=>exact Ae
theorem Aqh {esz:Nat→Nat} {ea:Nat→Bool} {x y:AV} {k:TK} (hx:x.lives os):L8 os d (fIA esz ea os x k y):=by
 cases k with
 | sl e=>cases y with
  | p y=>cases y with
   | val v=>cases v with
    | int i n=>cases x with
     | own m len=>
      rw [Th]
      cases hn:os m with
      | none=>exact Ae
      | some o=>cases o with
       | cells cs=>exact Ae
       | arr k es=>exact Ck (fun _=>Bz (Gd hx fun m hm=>by simpa [AV.clean] using hm)) Ae
       | obj X=>exact Ae
       | it k X=>exact Ae
       | loop k tm=>exact Ae
     | csl m off k len=>exact Ck (fun _=>Bz (Gd hx fun m hm=>by simpa [AV.clean] using hm)) Ae
     | p x=>cases x with
      | sl es=>exact Ck (fun _=>Em) Ae
      | _=>exact Ae
     | _=>exact Ae
    | _=>exact Ae
   | _=>exact Ae
  | _=>exact Ae
 | arr n e=>cases y with
  | p y=>cases y with
   | val v=>cases v with
    | int i n=>cases x with
     | ptr m off=>exact Ck (fun _=>Bz (Gd hx fun m hm=>by simpa [AV.clean] using hm)) Ae
     | p x=>cases x with
      | ro cs=>exact Ck (fun _=>Em) Ae
      | _=>exact Ae
     | _=>exact Ae
    | _=>exact Ae
   | _=>exact Ae
  | _=>exact Ae
 | _=>exact Ae
theorem L7 {vs:List Value}:∀ (i:Nat) (y:AV),(Eb vs)[i]?=some y→y.lives os:=Ju os vs
theorem Za {n d:Nat}:∀ m,(AV.ptr d n).clean m=false→m=d:=fun m hm=>by
 simp only [AV.clean,bne_eq_false_iff_eq] at hm; exact hm.symm
theorem Eh {n d:Nat}:∀ m,(AV.own d n).clean m=false→m=d:=fun m hm=>by
 simp only [AV.clean,bne_eq_false_iff_eq] at hm; exact hm.symm
theorem Me (hq:qop op=true) (hg:Cc op=false) (hc:s.closed):L8 s.o d (eff P d op (ev s.t) s.o):=by
 have hl:=Kr hc
 cases op with
 | move x=>exact Bz (hl x)
 | assign x=>exact Bz (hl x)
 | pick c a b=>
  simp only [eff]
  split
  ·rename_i bb _
   refine Bz ?_
   show (if bb=true then _ else _:AV).lives _
   split
   ·exact hl a
   ·exact hl b
  ·exact Ae
 | alloc t=>exact Ck (fun _=>Bz ⟨AO.lives_cells.2 L7,Za⟩) Ae
 | box t x=>
  intro e he
  obtain ⟨cs,hcs,rfl⟩:=Option.map_eq_some_iff.1 he
  exact ⟨AO.lives_cells.2 (M8 (hl x) hcs),Za⟩
 | load t x=>exact R0 hc
 | fieldAddr t x f=>
  have e:eff P d (.fieldAddr t x f) (ev s.t) s.o=fFA (ev s.t x) (fun t=>(Ab P t).sz) ((E3 (Ab P t).k)[f]?):=by
   cases hk:(Ab P t).k with
   | struct fs=>
    simp only [eff,hk,E3]
    cases fs[f]? with
    | none=>rfl
    | some p=>rfl
   | _=>simp [eff,hk,E3,fFA]
  rw [e]
  exact Ar2 (hl x)
 | field t x f=>
  simp only [eff]
  split
  ·rename_i fs cs h1 h2
   have hx:=hl x
   rw [h2,AV.lives_agg] at hx
   split
   ·split
    ·exact Ck (fun _=>Gy (Pq hx)) Ae
    ·exact Ae
   ·exact Ae
  ·exact Ae
 | indexAddr t x i=>exact Aqh (hl x)
 | index t x i=>
  simp only [eff]
  split
  ·rename_i len e cs k n h1 h2 h3
   have hx:=hl x
   rw [h2,AV.lives_agg] at hx
   split
   ·exact Ck (fun _=>Gy (Pq hx)) Ae
   ·exact Ae
  ·exact Ae
 | binOp b t x y u=>
  simp only [eff]
  split
  ·split
   ·exact Li
   ·exact Ae
  ·exact Li
  ·unfold G2
   split
   ·split
    ·split
     ·exact Em
     ·exact Em
     ·exact Ae
    ·exact Ae
   ·exact Ae
  ·exact Ae
 | unOp b t x=>
  simp only [eff]
  split
  ·exact Em
  ·exact Em
  ·exact Ae
 | convert u t x=>
  simp only [eff]
  split
  ·exact Ck (fun _=>Em) Ae
  ·exact Ae
 | nilCheck x=>
  simp only [eff]
  split
  ·rename_i n off h; rw [← h]; exact Bz (hl x)
  ·rename_i n k i off h; rw [← h]; exact Bz (hl x)
  ·exact Em
  ·exact Ae
 | extract x i=>
  intro e he
  simp only [eff] at he
  split at he
  ·rename_i vs hv
   obtain ⟨y,hy,rfl⟩:=Option.map_eq_some_iff.1 he
   have hx:=hl x
   rw [hv,AV.lives_tup] at hx
   exact hx _ y hy
  ·cases he
 | makeFunc f a b=>
  refine Bz ?_
  intro n hn
  simp only [AV.clean,Bool.and_eq_false_iff] at hn
  rcases hn with hn | hn
  ·exact AV.lives_cells.1 (Ahc hc) n hn
  ·exact AV.lives_cells.1 (Ahc hc) n hn
 | build t parts=>
  have hp:∀ p ∈ parts.toList.map (fun p=>(p.1,ev s.t p.2)),(p.2:AV).lives s.o:=fun p hp=>by
   obtain ⟨q,_,rfl⟩:=List.mem_map.1 hp
   exact hl q.2
  simp only [eff]
  refine Ck (fun _=>?_) Ae
  split
  ·split
   ·exact Ae
   ·intro e he
    obtain ⟨cs,hcs,rfl⟩:=Option.map_eq_some_iff.1 he
    exact AV.lives_agg.2 (Ea _ _ _ _ L7 hp hcs)
  ·split
   ·exact Ae
   ·intro e he
    obtain ⟨cs,hcs,rfl⟩:=Option.map_eq_some_iff.1 he
    exact AV.lives_agg.2 (Ea _ _ _ _ L7 hp hcs)
  ·exact Ae
 | buildSlice t n parts=>
  simp only [eff]
  split
  ·split
   ·exact Ck (fun _=>Bz ⟨AO.lives_arr _ _ _,Eh⟩) Ae
   ·exact Ae
  ·exact Ae
 | makeSlice t l c=>
  simp only [eff]
  split
  ·exact Ck (fun _=>Bz ⟨AO.lives_arr _ _ _,Eh⟩) Ae
  ·exact Ae
 | slice t x lo hi m=>
  cases m with
  | some m=>
   cases hi with
   | none=>simp [qop] at hq
   | some hi=>
    simp only [eff]
    split
    ·split
     ·exact Ck (fun _=>Em) Ae
     ·exact Ae
    ·exact Ae
  | none=>
   simp only [eff]
   split
   ·split
    ·split
     ·exact Ck (fun _=>Em) Ae
     ·exact Ae
    ·exact Ae
   ·split
    ·rename_i n off l h h1 _ _
     have hx:=hl x
     rw [h1] at hx
     exact Ck (fun _=>Bz (Gd hx fun m hm=>by simpa [AV.clean] using hm)) Ae
    ·exact Ae
   ·exact Ae
 | call c=>
  obtain ⟨callee,args,ts⟩:=c
  cases callee with
  | value f=>simp [Cc] at hg
  | invoke r m=>simp [qop] at hq
  | builtin b=>
   cases b <;> first | (simp [qop] at hq; done) | skip
   ·simp only [eff]
    split
    ·split
     ·split
      ·exact Em
      ·exact Em
      ·intro e he
       obtain ⟨y,_,rfl⟩:=Option.map_eq_some_iff.1 he
       exact AV.lives_p _ _
      ·exact Ae
     ·exact Em
     ·exact Ae
    ·exact Ae
   ·exact Li
   ·exact Li
 | _=>simp [qop] at hq
end
theorem Sq {os os':Nat→Option AO} {x:AV} (h:∀ n,x.clean n=false→os' n=os n):Fb os' x=Fb os x:=by
 cases x with
 | own n len=>simp only [Fb,C4,h n (by simp [AV.clean])]
 | csl n off k len=>simp only [Fb,C4,h n (by simp [AV.clean])]
 | fn f fs cs=>cases fs <;> cases cs <;> rfl
 | _=>rfl
theorem Sj {os os':Nat→Option AO}:∀ {l:List AV},(∀ n,AV.clean.cleanL n l=false→os' n=os n)→He os' l=He os l
 | [],_=>rfl
 | x :: r,h=>by
  simp only [He]
  rw [Sq (fun n hn=>h n (by simp [AV.clean.cleanL,hn])),Sj (l:=r) (fun n hn=>h n (by simp [AV.clean.cleanL,hn]))]
theorem Ad7 {os os':Nat→Option AO} {x:AV} (h:∀ n,x.clean n=false→os' n=os n):Ew os' x=Ew os x:=by
 cases x with
 | agg cs=>simp only [Ew]; rw [Sj (fun n hn=>h n (by simpa [AV.clean] using hn))]
 | _=>exact Sq h
theorem Ld {os os':Nat→Option AO}:∀ {l:List AV},(∀ x ∈ l,∀ n,x.clean n=false→os' n=os n)→Dg os' l=Dg os l
 | [],_=>rfl
 | x :: r,h=>by
  simp only [Dg]
  rw [Ad7 (h x (by simp)),Ld (l:=r) (fun y hy=>h y (by simp [hy]))]
section
variable {P:Program} {r:RB} {nb N:Nat} {all:List Oper}
def ENq (P:Program) (s:St) (k:Nat) (es:List (List PV)):Op→Prop
 | .call ⟨.value (.func f),as,_⟩=>A7 P f=true∧∃ args,Dg s.o (as.toList.map (ev s.t))=some args∧H0 P f args k es
 | _=>False
theorem Ale {nb:Nat} {dst:Option Nat} {s:St} {K:St→Prop} {op:Op}:EN P nb dst s K op↔∃ k es d,ENq P s k es op∧dst=some d∧s.o (nb+d)=none∧K ((s.setO (nb+d) (.arr k es)).put dst (.own (nb+d) es.length)):=by
 unfold EN ENq
 split
 ·constructor
  ·rintro ⟨h1,args,k,es,d,h2,h3,h4,h5,h6⟩
   exact ⟨k,es,d,⟨h1,args,h2,h3⟩,h4,h5,h6⟩
  ·rintro ⟨k,es,d,⟨h1,args,h2,h3⟩,h4,h5,h6⟩
   exact ⟨h1,args,k,es,d,h2,h3,h4,h5,h6⟩
 ·simp
def QS (P:Program) (nb:Nat) (o:Oper) (s:St) (x:AV) (ob:Option AO):Prop:=
 if Cc o.op then (ob=none∧EC P s (fun y=>y=x) o.op)∨∃ k es d,ENq P s k es o.op∧o.dst=some d∧s.o (nb+d)=none∧x=.own (nb+d) es.length∧ob=some (.arr k es)
 else (eff P (nb+o.dst.getD 0) o.op (ev s.t) s.o=some (.pure x)∧ob=none)∨∃ a d,eff P (nb+o.dst.getD 0) o.op (ev s.t) s.o=some (.new a x)∧ob=some a∧o.dst=some d∧s.o (nb+d)=none
def Cx (nb:Nat) (dst:Option Nat) (x:AV) (ob:Option AO) (s:St):St:=match ob,dst with
 | some a,some d=>(s.setO (nb+d) a).put (some d) x
 | _,_=>s.put dst x
theorem Bdh {op:Op} (h:qop op=true):isM op=false:=by
 cases op <;> first | rfl | (simp [qop] at h)
theorem Ai8 {op:Op} (h:qop op=true):Dd op=false:=by
 cases op <;> first | rfl | (simp [qop] at h)
theorem Anm {s:St} {K:AV→Prop} {op:Op}:EC P s K op↔∃ x,EC P s (fun y=>y=x) op∧K x:=by
 unfold EC
 split
 ·constructor
  ·rintro ⟨h1,args,res,h2,h3,h4,h5⟩
   exact ⟨res,⟨h1,args,res,h2,h3,h4,rfl⟩,h5⟩
  ·rintro ⟨x,⟨h1,args,res,h2,h3,h4,rfl⟩,h5⟩
   exact ⟨h1,args,res,h2,h3,h4,h5⟩
 ·simp
theorem Ac2 {o:Oper} {s:St} {K:St→Prop} (hq:qop o.op=true) (hv:isV r.v o.op=false) (hc:s.closed):EO P r N o s K↔Bx N o.dst=true∧∃ x ob,QS P r.b o s x ob∧K (Cx r.b o.dst x ob s):=by
 unfold EO QS
 rw [if_neg (by rw [Bdh hq]; simp),if_neg (by rw [hv]; simp)]
 by_cases hg:Cc o.op=true
 ·simp only [hg,if_true]
  constructor
  ·rintro ⟨h1,h2⟩
   rcases h2 with h2 | h2
   ·obtain ⟨x,h3,h4⟩:=Anm.1 h2
    exact ⟨h1,x,none,.inl ⟨rfl,h3⟩,h4⟩
   ·obtain ⟨k,es,d,h3,h4,h5,h6⟩:=Ale.1 h2
    exact ⟨h1,_,_,.inr ⟨k,es,d,h3,h4,h5,rfl,rfl⟩,by rw [h4] at h6 ⊢; exact h6⟩
  ·rintro ⟨h1,x,ob,h2,h4⟩
   rcases h2 with ⟨rfl,h3⟩ | ⟨k,es,d,h3,h5,h6,rfl,rfl⟩
   ·exact ⟨h1,.inl (Anm.2 ⟨x,h3,h4⟩)⟩
   ·exact ⟨h1,.inr (Ale.2 ⟨k,es,d,h3,h5,h6,by rw [h5] at h4 ⊢; exact h4⟩)⟩
 ·have hg':Cc o.op=false:=by simpa using hg
  have hgd:=Me (P:=P) (d:=r.b+o.dst.getD 0) hq hg' hc
  simp only [hg',Bool.false_eq_true,if_false,Ai8 hq,true_and]
  constructor
  ·rintro ⟨h1,h2⟩
   refine ⟨h1,?_⟩
   cases he:eff P (r.b+o.dst.getD 0) o.op (ev s.t) s.o with
   | none=>rw [he] at h2; exact h2.elim
   | some e=>
    rw [he] at h2
    have hgd:=hgd e he
    cases e with
    | pure x=>exact ⟨x,none,.inl ⟨rfl,rfl⟩,h2⟩
    | new a x=>
     cases hd:o.dst with
     | none=>rw [hd] at h2; exact h2.elim
     | some d=>
      rw [hd] at h2
      simp only [EA,Eff.apply] at h2
      cases hb:(s.o (r.b+d)).isNone with
      | false=>simp [hb] at h2
      | true=>
       simp only [hb,if_true] at h2
       simp only [Option.isNone_iff_eq_none] at hb
       exact ⟨x,some a,.inr ⟨a,d,rfl,rfl,rfl,hb⟩,h2⟩
    | upd n o=>exact hgd.elim
    | app n o x=>exact hgd.elim
  ·rintro ⟨h1,x,ob,h2 | h2,h3⟩
   ·obtain ⟨h2,rfl⟩:=h2
    exact ⟨h1,by rw [h2]; exact h3⟩
   ·obtain ⟨a,d,h2,rfl,hd,h4⟩:=h2
    refine ⟨h1,?_⟩
    rw [h2,hd]
    simp only [EA,Eff.apply,h4,Option.isNone_none,if_true]
    rw [hd] at h3
    exact h3
def GS (P:Program) (nb:Nat) (all:List Oper) (o:Oper) (s:St) (x:AV) (ob:Option AO):Prop:=match o.guard with
 | none=>QS P nb o s x ob
 | some (j,want)=>match Mz ((Hd all j).elim .undef s.t) with
  | some g=>if g=some want then QS P nb o s x ob else x=Cg∧ob=none
  | none=>False
theorem E1 {o:Oper} {rest:List Oper} {s:St} {K:St→Prop} (hq:qop o.op=true) (hv:isV r.v o.op=false) (hc:s.closed):EL P r N all (o :: rest) s K↔Bx N o.dst=true∧∃ x ob,GS P r.b all o s x ob∧EL P r N all rest (Cx r.b o.dst x ob s) K:=by
 obtain ⟨dst,op,ty,pos,after,g⟩:=o
 cases g with
 | none=>exact Ac2 (r:=r) hq hv hc
 | some g=>
  obtain ⟨j,want⟩:=g
  rw [Auy]
  simp only [GS]
  generalize (Hd all j).elim .undef s.t=v
  unfold EG Mz
  split
  ·rename_i b
   simp only []
   rw [Ac2 hq hv hc]
   have e:∀ K':St→Prop,(∃ x ob,(x=Cg∧ob=none)∧K' (Cx r.b dst x ob s))↔K' (s.put dst Cg):=fun K'=>
    ⟨fun ⟨x,ob,⟨h1,h2⟩,h3⟩=>by subst h1 h2; exact h3,fun h=>⟨Cg,none,⟨rfl,rfl⟩,h⟩⟩
   have e':=e (fun s'=>EL P r N all rest s' K)
   cases b <;> cases want <;> simp only [Bool.not_true,Bool.not_false,Bool.true_eq_false,Bool.false_eq_true,Option.some.injEq,if_true,if_false,false_implies,forall_const,true_and,and_true,e'] <;> constructor <;> intro h
   all_goals first | exact h | exact ⟨h.1,h.2.1,h.2⟩ | exact ⟨h.1,h.2.2⟩ | exact ⟨h.1,h.1,h.2⟩
  ·constructor
   ·rintro ⟨h1,h2⟩
    exact ⟨h1,Cg,none,by simp,h2⟩
   ·rintro ⟨h1,x,ob,h2,h3⟩
    simp at h2
    obtain ⟨rfl,rfl⟩:=h2
    exact ⟨h1,h3⟩
  ·simp
theorem Da {s:St} (hc:s.closed) {dst:Option Nat} {x:AV} (hx:x.lives s.o):(s.put dst x).closed:=by
 cases dst with
 | none=>exact hc
 | some d=>
  refine ⟨fun i=>?_,hc.2⟩
  show (upd s.t d x i).lives s.o
  unfold upd
  split
  ·exact hx
  ·exact hc.1 i
theorem Dw {s:St} (hc:s.closed) {d:Nat} {k:Option Nat} {a:AO} {x:AV} (ha:a.lives s.o) (hx:∀ n,x.clean n=false→n=d):((s.setO d a).put k x).closed:=by
 have hm:∀ n,(s.o n).isSome=true→((s.setO d a).o n).isSome=true:=fun n hn=>by
  show (upd s.o d (some a) n).isSome=true
  unfold upd; split
  ·rfl
  ·exact hn
 have h1:(s.setO d a).closed:=by
  refine ⟨fun i=>AV.lives_mono hm (hc.1 i),fun m o ho=>?_⟩
  have ho:upd s.o d (some a) m=some o:=ho
  unfold upd at ho
  split at ho
  ·cases ho; exact AO.lives_mono hm ha
  ·exact AO.lives_mono hm (hc.2 m o ho)
 exact Da h1 (fun n hn=>by rw [hx n hn]; show (upd s.o d (some a) d).isSome=true; simp)
theorem Kg {o:Oper} {s:St} {x:AV} {ob:Option AO} (hq:qop o.op=true) (hc:s.closed) (h:GS P nb all o s x ob):(Cx nb o.dst x ob s).closed:=by
 have hQ:QS P nb o s x ob→(Cx nb o.dst x ob s).closed:=by
  clear h
  intro h
  unfold QS at h
  split at h
  ·rcases h with ⟨rfl,h⟩ | ⟨k,es,d,h3,h5,h6,rfl,rfl⟩
   ·unfold EC at h
    split at h
    ·obtain ⟨_,args,res,_,h3,_,rfl⟩:=h
     exact Da hc (A5 _ h3.1)
    ·exact h.elim
   ·simp only [Cx,h5]
    exact Dw hc (AO.lives_arr _ _ _) (fun n hn=>by simpa [AV.clean] using Eq.symm (by simpa [AV.clean] using hn))
  ·rename_i hg
   have hgd:=Me (P:=P) (d:=nb+o.dst.getD 0) hq (by simpa using hg) hc
   rcases h with ⟨h,rfl⟩ | ⟨a,d,h,rfl,hd,h4⟩
   ·exact Da hc (hgd _ h)
   ·obtain ⟨h5,h6⟩:=hgd _ h
    simp only [Cx,hd]
    rw [hd] at h6
    exact Dw hc h5 h6
 unfold GS at h
 split at h
 ·exact hQ h
 ·split at h
  ·split at h
   ·exact hQ h
   ·obtain ⟨rfl,rfl⟩:=h
    exact Da hc (fun n hn=>by simp [Cg,AV.clean,AV.clean.cleanL] at hn)
  ·exact h.elim
structure Arg (nb:Nat) (all:List Oper) (o:Oper) (s s':St):Prop where
 t:∀ t ∈ o.looksAt all.toArray,s'.t t=s.t t
 ob:∀ t ∈ o.looksAt all.toArray,∀ n,(s.t t).clean n=false→s'.o n=s.o n
 f:∀ d,o.dst=some d→s.o (nb+d)=none→s'.o (nb+d)=none
theorem Adq {t:Nat→AV} {x:Operand} {n:Nat} (h:(ev t x).clean n=false):∃ i,x=.tmp i:=by
 cases x with
 | tmp i=>exact ⟨i,rfl⟩
 | const v=>
  exfalso
  simp only [ev] at h
  cases v <;> first
   | (simp [Bc,AV.clean] at h; done)
   | skip
  unfold Bc at h
  dsimp only at h
  split at h
  ·simp only [AV.clean] at h
   rw [(Bd n _).2 (fun i x hi=>by
    simp only [List.getElem?_map,Option.map_eq_some_iff] at hi
    obtain ⟨y,_,rfl⟩:=hi
    rfl)] at h
   cases h
  ·simp [AV.clean] at h
 | global g=>simp [ev,AV.clean] at h
 | func f=>simp [ev,AV.clean,AV.clean.cleanL] at h
theorem Arg.agree {o:Oper} {s s':St} (h:Arg nb all o s s'):Agx o.op (ev s.t) (ev s'.t) s.o s'.o:=by
 have hl:∀ x ∈ o.op.operands.toList,∀ i,x=.tmp i→i ∈ o.looksAt all.toArray:=fun x hx i hi=>by
  subst hi
  exact List.mem_append_left _ (List.mem_filterMap.2 ⟨.tmp i,hx,rfl⟩)
 refine ⟨fun x hx=>?_,fun x hx n hn=>?_⟩
 ·cases x with
  | tmp i=>exact h.t i (hl _ hx i rfl)
  | _=>rfl
 ·obtain ⟨i,rfl⟩:=Adq hn
  exact h.ob i (hl _ hx i rfl) n hn
theorem Amg {s s':St} {K:AV→Prop} {op:Op} (h:Agx op (ev s.t) (ev s'.t) s.o s'.o) (hE:EC P s K op):EC P s' K op:=by
 unfold EC at hE ⊢
 split at hE
 ·rename_i f as ts
  obtain ⟨h1,args,res,h2,h3,h4,h5⟩:=hE
  have hmem:∀ x ∈ as.toList,x ∈ (Op.call ⟨.value (.func f),as,ts⟩).operands.toList:=fun x hx=>by
   simp [Op.operands,Call.operands]; right; simpa using hx
  have hm:as.toList.map (ev s'.t)=as.toList.map (ev s.t):=List.map_congr_left fun x hx=>h.t x (hmem x hx)
  refine ⟨h1,args,res,?_,h3,by rw [hm]; exact h4,h5⟩
  rw [hm,Ld (fun y hy n hn=>?_)]
  ·exact h2
  ·obtain ⟨x,hx,rfl⟩:=List.mem_map.1 hy
   exact h.o x (hmem x hx) n hn
 ·exact hE.elim
theorem Ah2 {s s':St} {k:Nat} {es:List (List PV)} {op:Op} (h:Agx op (ev s.t) (ev s'.t) s.o s'.o) (hE:ENq P s k es op):ENq P s' k es op:=by
 unfold ENq at hE ⊢
 split at hE
 ·rename_i f as ts
  obtain ⟨h1,args,h2,h3⟩:=hE
  have hmem:∀ x ∈ as.toList,x ∈ (Op.call ⟨.value (.func f),as,ts⟩).operands.toList:=fun x hx=>by
   simp [Op.operands,Call.operands]; right; simpa using hx
  have hm:as.toList.map (ev s'.t)=as.toList.map (ev s.t):=List.map_congr_left fun x hx=>h.t x (hmem x hx)
  refine ⟨h1,args,?_,h3⟩
  rw [hm,Ld (fun y hy n hn=>?_)]
  ·exact h2
  ·obtain ⟨x,hx,rfl⟩:=List.mem_map.1 hy
   exact h.o x (hmem x hx) n hn
 ·exact hE.elim
theorem Mv {o:Oper} {s s':St} {x:AV} {ob:Option AO} (hq:qop o.op=true) (hn:Arg nb all o s s') (h:GS P nb all o s x ob):GS P nb all o s' x ob:=by
 have ha:=hn.agree
 have hQ:QS P nb o s x ob→QS P nb o s' x ob:=by
  intro h
  unfold QS at h ⊢
  split at h
  ·rename_i hg
   rw [if_pos hg]
   rcases h with h | ⟨k,es,d,h3,h5,h6,h7,h8⟩
   ·exact .inl ⟨h.1,Amg ha h.2⟩
   ·exact .inr ⟨k,es,d,Ah2 ha h3,h5,hn.f d h5 h6,h7,h8⟩
  ·rename_i hg
   rw [if_neg hg]
   have e:=Kw (P:=P) (d:=nb+o.dst.getD 0) hq (by simpa using hg) ha
   rw [e]
   rcases h with h | ⟨a,d,h1,h2,h3,h4⟩
   ·exact .inl h
   ·exact .inr ⟨a,d,h1,h2,h3,hn.f d h3 h4⟩
 unfold GS at h ⊢
 split
 ·rename_i hg
  rw [hg] at h
  exact hQ h
 ·rename_i j want hg
  rw [hg] at h
  simp only [] at h
  have e:(Hd all j).elim AV.undef s'.t=(Hd all j).elim .undef s.t:=by
   cases hd:Hd all j with
   | none=>rfl
   | some t=>
    refine hn.t t (List.mem_append_right _ ?_)
    rw [hg]
    simp only []
    have:(all.toArray[j]?).bind (·.dst)=some t:=by simpa [Hd] using hd
    rw [this]; simp
  rw [e]
  split
  ·rename_i g hgv
   rw [hgv] at h
   simp only [] at h
   split
   ·rename_i hw; rw [if_pos hw] at h; exact hQ h
   ·rename_i hw; rw [if_neg hw] at h; exact h
  ·rename_i hgv
   rw [hgv] at h
   exact h
theorem Hl {dst:Option Nat} {x:AV} {ob:Option AO} {s:St} {i:Nat} (h:dst≠some i):(Cx nb dst x ob s).t i=s.t i:=by
 unfold Cx
 cases dst with
 | none=>cases ob <;> rfl
 | some d=>
  have hne:i≠d:=fun e=>h (by rw [e])
  cases ob with
  | none=>exact Ar hne
  | some a=>exact Ar hne
theorem Nr {dst:Option Nat} {x:AV} {ob:Option AO} {s:St} {n:Nat} (h:(∀ d,dst=some d→nb+d≠n)∨ob=none):(Cx nb dst x ob s).o n=s.o n:=by
 unfold Cx
 cases dst with
 | none=>cases ob <;> rfl
 | some d=>
  cases ob with
  | none=>rfl
  | some a=>
   rcases h with h | h
   ·exact Ar (fun e=>h d rfl e.symm)
   ·cases h
theorem Zm {o:Oper} {s:St} {x:AV} {a:AO} (h:GS P nb all o s x (some a)):∃ d,o.dst=some d∧s.o (nb+d)=none:=by
 have hQ:QS P nb o s x (some a)→∃ d,o.dst=some d∧s.o (nb+d)=none:=by
  intro h
  unfold QS at h
  split at h
  ·rcases h with h | ⟨k,es,d,_,h3,h4,_,_⟩
   ·cases h.1
   ·exact ⟨d,h3,h4⟩
  ·rcases h with h | ⟨a',d,_,_,h3,h4⟩
   ·cases h.2
   ·exact ⟨d,h3,h4⟩
 unfold GS at h
 split at h
 ·exact hQ h
 ·split at h
  ·split at h
   ·exact hQ h
   ·cases h.2
  ·exact h.elim
theorem Pk {d1 d2:Option Nat} {x1 x2:AV} {ob1 ob2:Option AO} {s:St} (h:∀ d,d1=some d→d2≠some d):Cx nb d1 x1 ob1 (Cx nb d2 x2 ob2 s)=Cx nb d2 x2 ob2 (Cx nb d1 x1 ob1 s):=by
 cases d1 with
 | none=>cases d2 <;> cases ob1 <;> cases ob2 <;> rfl
 | some d1=>cases d2 with
  | none=>cases ob1 <;> cases ob2 <;> rfl
  | some d2=>
   have hne:d1≠d2:=fun e=>h d1 rfl (by rw [e])
   have hc:∀ {α:Type} (f:Nat→α) (u v:α),upd (upd f d2 v) d1 u=upd (upd f d1 u) d2 v:=fun f u v=>by
    funext i
    unfold upd
    by_cases h1:i=d1
    ·subst h1; simp [hne]
    ·simp [h1]
   have hc2:∀ {α:Type} (f:Nat→α) (u v:α),upd (upd f (nb+d2) v) (nb+d1) u=upd (upd f (nb+d1) u) (nb+d2) v:=fun f u v=>by
    funext i
    unfold upd
    by_cases h1:i=nb+d1
    ·subst h1; simp [hne]
    ·simp [h1]
   cases ob1 <;> cases ob2 <;> simp only [Cx,St.put,St.setO,hc,hc2]
theorem Aeg {o1 o2:Oper} {s:St} {x1 x2:AV} {ob1 ob2:Option AO} (hq1:qop o1.op=true) (hq2:qop o2.op=true) (hap:o1.apart all.toArray o2=true) (hc:s.closed)
  (h1:GS P nb all o1 s x1 ob1) (h2:GS P nb all o2 (Cx nb o1.dst x1 ob1 s) x2 ob2):GS P nb all o2 s x2 ob2∧GS P nb all o1 (Cx nb o2.dst x2 ob2 s) x1 ob1∧Cx nb o1.dst x1 ob1 (Cx nb o2.dst x2 ob2 s)=Cx nb o2.dst x2 ob2 (Cx nb o1.dst x1 ob1 s):=by
 obtain ⟨a1,a2,a3⟩:=Oper.apart_spec hap
 have hdt:∀ t ∈ o2.looksAt all.toArray,o1.dst≠some t:=fun t ht e=>a1 t e ht
 have hdt2:∀ t ∈ o1.looksAt all.toArray,o2.dst≠some t:=fun t ht e=>a3 t e ht
 have hnew:∀ n,(s.o n).isSome=true→(∀ d,o1.dst=some d→nb+d≠n)∨ob1=none:=fun n hn=>by
  cases ob1 with
  | none=>exact .inr rfl
  | some a=>
   obtain ⟨d,hd,hnone⟩:=Zm h1
   refine .inl fun e he en=>?_
   rw [hd] at he; cases he; subst en; rw [hnone] at hn; cases hn
 have h2':GS P nb all o2 s x2 ob2:=by
  refine Mv hq2 ⟨fun t ht=>(Hl (hdt t ht)).symm,fun t ht n hn=>?_,fun d hd hnone=>?_⟩ h2
  ·rw [Hl (hdt t ht)] at hn
   exact (Nr (hnew n (hc.1 t n hn))).symm
  ·cases hs:s.o (nb+d) with
   | none=>rfl
   | some o=>rw [Nr (hnew (nb+d) (by rw [hs]; rfl)),hs] at hnone; cases hnone
 have hnew2:∀ n,(s.o n).isSome=true→(∀ d,o2.dst=some d→nb+d≠n)∨ob2=none:=fun n hn=>by
  cases ob2 with
  | none=>exact .inr rfl
  | some a=>
   obtain ⟨d,hd,hnone⟩:=Zm h2'
   refine .inl fun e he en=>?_
   rw [hd] at he; cases he; subst en; rw [hnone] at hn; cases hn
 refine ⟨h2',Mv hq1 ⟨fun t ht=>Hl (hdt2 t ht),fun t ht n hn=>Nr (hnew2 n (hc.1 t n hn)),fun d hd hnone=>?_⟩ h1,Pk a2⟩
 rw [Nr (.inl (fun e he en=>by
  have e1:e=d:=by omega
  subst e1
  exact a2 e hd he))]
 exact hnone
def H6 (P:Program) (r:RB) (N:Nat) (all:List Oper) (o:Oper):Prop:=
 ∀ l l' s K,s.closed→(∀ s1,s1.closed→EL P r N all l s1 K→EL P r N all l' s1 K)→EL P r N all (o :: l) s K→EL P r N all (o :: l') s K
def Jq (P:Program) (r:RB) (N:Nat) (all:List Oper) (i j:Oper):Prop:=
 ∀ l s K,s.closed→EL P r N all (i :: j :: l) s K→EL P r N all (j :: i :: l) s K
theorem Ep {o:Oper} (hq:qop o.op=true) (hv:isV r.v o.op=false):H6 P r N all o:=by
 intro l l' s K hc h hE
 rw [E1 hq hv hc] at hE ⊢
 obtain ⟨h1,x,ob,h2,h3⟩:=hE
 exact ⟨h1,x,ob,h2,h _ (Kg hq hc h2) h3⟩
theorem Abc {i j:Oper} (hi:qop i.op=true) (hj:qop j.op=true) (hiv:isV r.v i.op=false) (hjv:isV r.v j.op=false) (hap:i.apart all.toArray j=true):Jq P r N all i j:=by
 intro l s K hc hE
 rw [E1 hi hiv hc] at hE
 obtain ⟨h1,x,ob,h2,h3⟩:=hE
 rw [E1 hj hjv (Kg hi hc h2)] at h3
 obtain ⟨h4,x',ob',h5,h6⟩:=h3
 obtain ⟨g1,g2,g3⟩:=Aeg hi hj hap hc h2 h5
 rw [E1 hj hjv hc]
 refine ⟨h4,x',ob',g1,?_⟩
 rw [E1 hi hiv (Kg hj hc g1)]
 exact ⟨h1,x,ob,g2,by rw [g3]; exact h6⟩
theorem Aaq {j:Oper} {post:List Oper} {K:St→Prop}:∀ {pre:List Oper} {s:St},s.closed→(∀ i ∈ pre,H6 P r N all i∧Jq P r N all i j)→EL P r N all (pre++j :: post) s K→EL P r N all (j :: (pre++post)) s K
 | [],_,_,_,h=>h
 | i :: pre,s,hc,hp,h=>by
  have hi:=hp i (by simp)
  exact hi.2 _ s K hc (hi.1 _ _ s K hc (fun s1 hc1 h1=>Aaq hc1 (fun k hk=>hp k (by simp [hk])) h1) h)
end
section
variable {P:Program} {r:RB} {N:Nat} {ops:List Oper}
theorem Tq {o:Oper} {l:List Oper} {s:St} {K:St→Prop} {i:Nat} {B:Nat} {S:Nat→Prop} {θ:Nat→Loc} {M:Nat→Prop} {w:World} {a:Act} {Q:Exit→Act→World→Prop}
  (hi:ops[i]?=some o) (hs:Aq N B S θ M w s a) (h:EL P r N ops (o :: l) s K) :
  wpOpIn (Wd r.rd) 0 P ops.toArray Q i (fun a' w'=>∃ s1,EL P r N ops l s1 K∧Fin r N B S θ M w a s1 a' w') a w:=by
 have hi':ops.toArray[i]?=some o:=by simpa using hi
 unfold wpOpIn
 simp only [hi']
 obtain ⟨dst,op,ty,pos,after,g⟩:=o
 cases g with
 | none=>
  have hw:Region.wanted (⟨dst,op,ty,pos,after,none⟩:Oper) (yielded ops.toArray a.tmps)=true:=rfl
  rw [if_pos hw]
  exact Fh h B S θ M w a Q hs
 | some g=>
  obtain ⟨j,want⟩:=g
  simp only [EL] at h
  split at h
  ·exact h.elim
  ·rename_i t ht
   have skip:Bx N dst=true→EL P r N ops l (s.put dst Cg) K→∃ s1,EL P r N ops l s1 K∧Fin r N B S θ M w a s1 (a.put dst undef) w:=fun hd h=>
    ⟨_,h,(Adv.put hs (Cs hd) (.tup [] #[] rfl (fun i x h=>by simp at h)) (fun n hn=>by simp [AV.clean,AV.clean.cleanL] at hn)).toM,by cases dst <;> rfl⟩
   split at h
   ·rename_i b hb
    obtain ⟨h1,h2,h3⟩:=h
    have hy:yielded ops.toArray a.tmps j=some b:=Lc ht (g:=some b) (by rw [hb]; rfl) hs
    simp only [Region.wanted,hy]
    by_cases e:b=want
    ·subst e
     simp only [beq_self_eq_true,if_true]
     exact Fh (h2 rfl) B S θ M w a Q hs
    ·have:(some b == some want)=false:=by simpa using e
     simp only [this,Bool.false_eq_true,if_false]
     exact ⟨fun _ _=>trivial,skip h1 (h3 (by cases b <;> cases want <;> simp_all))⟩
   ·rename_i hb
    have hy:yielded ops.toArray a.tmps j=none:=Lc ht (g:=none) (by rw [hb]; rfl) hs
    simp only [Region.wanted,hy]
    have:((none:Option Bool) == some want)=false:=by simp
    simp only [this,Bool.false_eq_true,if_false]
    exact ⟨fun _ _=>trivial,skip h.1 h.2⟩
   ·exact h.elim
def Br (n:Nat) (listed:Array Bool):List Nat:=(List.range n).filter fun i=>!listed.getD i true
theorem Cy {n i:Nat} {listed:Array Bool}:i ∈ Br n listed↔i < n∧listed.getD i true=false:=by simp [Br]
theorem Jh {n i:Nat} {listed:Array Bool} (hs:listed.size=n) (hi:i ∈ Br n listed) :
  ∃ pre post,Br n listed=pre++i :: post∧(∀ j ∈ pre,j < i)∧Br n (listed.setIfInBounds i true)=pre++post:=by
 have hsort:(Br n listed).Pairwise (· < ·):=(List.pairwise_lt_range).filter _
 have hin:=(Cy.1 hi).1
 obtain ⟨pre,post,he⟩:=List.append_of_mem hi
 rw [he,List.pairwise_append] at hsort
 obtain ⟨h1,h2,h3⟩:=hsort
 refine ⟨pre,post,he,fun j hj=>h3 j hj i (by simp),?_⟩
 have e:Br n (listed.setIfInBounds i true)=(Br n listed).filter (fun j=>j != i):=by
  unfold Br
  rw [List.filter_filter]
  apply List.filter_congr
  intro j hj
  have hjn:j < n:=by simpa using hj
  by_cases hji:j=i
  ·subst hji
   simp [Array.getD_eq_getD_getElem?,hs,hjn]
  ·simp [Array.getD_eq_getD_getElem?,hji,Ne.symm hji]
 rw [e,he,List.filter_append,List.filter_cons]
 simp only [bne_self_eq_false,Bool.false_eq_true,if_false]
 rw [List.filter_eq_self.2,List.filter_eq_self.2]
 ·intro j hj
  have:=(List.pairwise_cons.1 h2).1 j hj
  simp; omega
 ·intro j hj
  have:=h3 j hj i (by simp)
  simp; omega
theorem Cr {n i:Nat} {listed:Array Bool} (hn:ops.length=n):i ∈ Region.ready .any ops.toArray listed↔i ∈ Br n listed∧∃ o,ops[i]?=some o∧∀ e ∈ o.after.toList,Region.binds .any e=true→listed.getD e.on false=true:=by
 subst hn
 simp only [Region.ready,List.mem_filter,Br]
 constructor
 ·rintro ⟨h1,h2⟩
  simp only [List.size_toArray] at h1
  simp only [Bool.and_eq_true] at h2
  refine ⟨⟨h1,h2.1⟩,?_⟩
  have h3:=h2.2
  cases ho:ops[i]? with
  | none=>simp [ho] at h3
  | some o=>
   refine ⟨o,rfl,fun e he hb=>?_⟩
   have:(o.after.all fun e=>!Region.binds .any e||listed.getD e.on false)=true:=by simpa [ho] using h3
   rw [← Array.all_toList,List.all_eq_true] at this
   have:=this e he
   simpa [hb] using this
 ·rintro ⟨⟨h1,h2⟩,o,ho,h3⟩
  simp only [List.size_toArray,h1,Bool.and_eq_true,true_and]
  refine ⟨h2,?_⟩
  have:(o.after.all fun e=>!Region.binds .any e||listed.getD e.on false)=true:=by
   rw [← Array.all_toList,List.all_eq_true]
   intro e he
   cases hb:Region.binds .any e with
   | false=>simp
   | true=>simpa using h3 e he hb
  simpa [ho] using this
structure Sk (ops:List Oper) (b:Nat→Nat):Prop where
 lt:∀ (i:Nat) (o:Oper),ops[i]?=some o→∀ e ∈ o.after.toList,Region.binds .any e=true→e.on < i
 why:∀ (i j:Nat) (o:Oper),ops[i]?=some o→j < i→(b i).testBit j=true→∃ e ∈ o.after.toList,Region.binds .any e=true∧(e.on=j∨(b e.on).testBit j=true∧j < e.on)
def Nw (ops:List Oper) (listed:Array Bool):Prop:=∀ (k:Nat) (o:Oper),ops[k]?=some o→listed.getD k false=true→∀ e ∈ o.after.toList,Region.binds .any e=true→listed.getD e.on false=true
theorem F5 {b:Nat→Nat} (hb:Sk ops b) {listed:Array Bool} (hc:Nw ops listed) {j:Nat}:∀ (k:Nat) (o:Oper),ops[k]?=some o→(∀ e ∈ o.after.toList,Region.binds .any e=true→listed.getD e.on false=true)→j < k→(b k).testBit j=true→listed.getD j false=true:=by
 intro k
 induction k using Nat.strongRecOn with
 | _ k ih=>
  intro o ho hr hjk ht
  obtain ⟨e,he,hbe,h | ⟨h,hj⟩⟩:=hb.why k j o ho hjk ht
  ·rw [← h]; exact hr e he hbe
  ·have hl:=hr e he hbe
   have hlt:=hb.lt k o ho e he hbe
   have:e.on < ops.length:=Nat.lt_trans hlt (List.getElem?_eq_some_iff.1 ho).1
   obtain ⟨o',ho'⟩:∃ o',ops[e.on]?=some o':=⟨ops[e.on],by simp [this]⟩
   exact ih e.on hlt o' ho' (hc e.on o' ho' hl) hj h
theorem Qs {listed:Array Bool} {i:Nat} (h:listed.getD i true=false):listed.getD i false=false:=by
 rw [Array.getD_eq_getD_getElem?] at h ⊢
 cases hx:listed[i]? with
 | none=>rfl
 | some x=>rw [hx] at h; simpa using h
theorem Aob {b:Nat→Nat} (hb:Sk ops b)
  (hsw:∀ (i j:Nat) (oi oj:Oper),j < i→ops[i]?=some oi→ops[j]?=some oj→(b i).testBit j=false→H6 P r N ops oj∧Jq P r N ops oj oi)
  {K:St→Prop} {Q:Exit→Act→World→Prop} :
  ∀ (fuel:Nat) (listed:Array Bool) (s:St) (B:Nat) (S:Nat→Prop) (θ:Nat→Loc) (M:Nat→Prop) (w:World) (a:Act),Aq N B S θ M w s a→listed.size=ops.length→Nw ops listed→(Br ops.length listed).length≤fuel →
   EL P r N ops ((Br ops.length listed).filterMap (ops[·]?)) s K→(∀ s' a' w',K s'→Fin r N B S θ M w a s' a' w'→Q .normal a' w')→wpAnyIn (Wd r.rd) 0 P .any ops.toArray Q fuel listed a w:=by
 intro fuel
 have hready:∀ {listed:Array Bool} {x:Nat},x ∈ Region.ready .any ops.toArray listed→x ∈ Br ops.length listed:=fun h=>((Cr rfl).1 h).1
 induction fuel with
 | zero=>
  intro listed s B S θ M w a hs hsz hcl hf hE hQ
  have hnil:Br ops.length listed=[]:=List.length_eq_zero_iff.1 (by omega)
  refine ⟨List.eq_nil_iff_forall_not_mem.2 fun x hx=>?_,?_⟩
  ·have:=hready hx
   rw [hnil] at this; cases this
  ·rw [hnil] at hE
   exact hQ s a w hE ⟨G4.refl hs,rfl⟩
 | succ fuel ih=>
  intro listed s B S θ M w a hs hsz hcl hf hE hQ
  refine ⟨fun hr=>?_,fun i hi=>?_⟩
  ·
   have hnil:Br ops.length listed=[]:=by
    cases hrem:Br ops.length listed with
    | nil=>rfl
    | cons x l=>
     exfalso
     have hx:x ∈ Br ops.length listed:=by rw [hrem]; simp
     have hsort:(Br ops.length listed).Pairwise (· < ·):=(List.pairwise_lt_range).filter _
     rw [hrem,List.pairwise_cons] at hsort
     obtain ⟨hxn,hxl⟩:=Cy.1 hx
     have:x ∈ Region.ready .any ops.toArray listed:=(Cr rfl).2 ⟨hx,ops[x],by simp [hxn],fun e he hbe=>by
      have hlt:=hb.lt x ops[x] (by simp [hxn]) e he hbe
      cases hl:listed.getD e.on false with
      | true=>rfl
      | false=>
       exfalso
       have hen:e.on < ops.length:=Nat.lt_trans hlt hxn
       have:e.on ∈ Br ops.length listed:=Cy.2 ⟨hen,by
        rw [Array.getD_eq_getD_getElem?] at hl ⊢
        have hsz':e.on < listed.size:=by omega
        simp only [Array.getElem?_eq_getElem hsz',Option.getD_some] at hl ⊢
        exact hl⟩
       rw [hrem] at this
       rcases List.mem_cons.1 this with h | h
       ·omega
       ·have:=hsort.1 _ h; omega⟩
     rw [hr] at this; cases this
   rw [hnil] at hE
   exact hQ s a w hE ⟨G4.refl hs,rfl⟩
  ·obtain ⟨hrem,o,ho,hafter⟩:=(Cr rfl).1 hi
   obtain ⟨pre,post,he,hpre,hset⟩:=Jh hsz hrem
   have hpl:∀ j ∈ pre,listed.getD j true=false:=fun j hj=>(Cy.1 (show j ∈ Br ops.length listed by rw [he]; simp [hj])).2
   rw [he,List.filterMap_append,List.filterMap_cons] at hE
   simp only [ho] at hE
   have hE':=Aaq hs.cl (fun oj hoj=>by
    obtain ⟨j,hj,hoj⟩:=List.mem_filterMap.1 hoj
    refine hsw i j o oj (hpre j hj) ho hoj ?_
    cases ht:(b i).testBit j with
    | false=>rfl
    | true=>
     have:=F5 hb hcl i o ho hafter (hpre j hj) ht
     rw [Qs (hpl j hj)] at this; cases this) hE
   refine wpOpIn_mono ?_ (Tq ho hs hE')
   rintro a' w' ⟨s1,hE1,hF⟩
   obtain ⟨θ',M',hs',hcomp⟩:=hF.comp
   refine ih _ s1 B S θ' M' w' a' hs' (by simpa using hsz) ?_ ?_ ?_ (fun s' a'' w'' hK hF'=>hQ s' a'' w'' hK (hcomp _ _ _ hF'))
   ·intro k ok hk hl e hek hbe
    have hmono:∀ m,listed.getD m false=true→(listed.setIfInBounds i true).getD m false=true:=fun m hm=>by
     rw [Array.getD_eq_getD_getElem?] at hm ⊢
     rw [Array.getElem?_setIfInBounds]
     split
     ·split <;> simp_all
     ·exact hm
    by_cases hki:k=i
    ·subst hki
     rw [ho] at hk; cases hk
     exact hmono _ (hafter e hek hbe)
    ·have:listed.getD k false=true:=by
      rw [Array.getD_eq_getD_getElem?] at hl ⊢
      rw [Array.getElem?_setIfInBounds,if_neg (Ne.symm hki)] at hl
      exact hl
     exact hmono _ (hcl k ok hk this e hek hbe)
   ·rw [hset]
    rw [he] at hf
    simp only [List.length_append,List.length_cons] at hf ⊢
    omega
   ·rw [hset,List.filterMap_append]
    exact hE1
theorem Hz (n:Nat):Br n (Array.replicate n false)=List.range n:=by
 unfold Br
 rw [List.filter_eq_self]
 intro i hi
 have:i < n:=by simpa using hi
 simp [Array.getD_eq_getD_getElem?,this]
theorem C1:∀ (l:List Oper),(List.range l.length).filterMap (l[·]?)=l
 | []=>rfl
 | x :: r=>by
  rw [List.length_cons,List.range_succ_eq_map,List.filterMap_cons]
  simp only [List.getElem?_cons_zero]
  rw [List.filterMap_map]
  have:((fun i=>(x :: r)[i]?) ∘ Nat.succ)=fun i=>r[i]?:=by funext i; simp
  rw [this,C1 r]
def Ans (n:Nat) (k:Nat→Bool):Bool:=match n with
 | 0=>k 0
 | m+1=>k (m+1)
theorem Akv (n:Nat) (k:Nat→Bool):Ans n k=k n:=by cases n <;> rfl
def Jx:List Oper→List Nat→(List Nat→Bool)→Bool
 | [],acc,k=>k acc
 | o :: r,acc,k=>Ans (o.after.toList.foldl (fun m e=>if Region.binds .any e then m ||| 2 ^ e.on ||| acc.getD e.on 0 else m) 0) fun m=>Jx r (acc++[m]) k
theorem Hu:∀ {l:List Oper} {acc:List Nat} {k:List Nat→Bool},Jx l acc k=true→∃ b,k b=true
 | [],acc,k,h=>⟨acc,h⟩
 | o :: r,acc,k,h=>by
  simp only [Jx,Akv] at h
  exact Hu h
def My (ops:List Oper) (b:Nat→Nat):Bool:=ops.zipIdx.all fun p=>(p.1.after.toList.all fun e=>!Region.binds .any e||decide (e.on < p.2)) &&
 (List.range p.2).all fun j=>!(b p.2).testBit j||p.1.after.toList.any fun e=>Region.binds .any e&&(e.on == j||((b e.on).testBit j&&decide (j < e.on)))
theorem Ft {b:Nat→Nat} (h:My ops b=true):Sk ops b:=by
 unfold My at h
 rw [List.all_eq_true] at h
 have key:∀ (i:Nat) (o:Oper),ops[i]?=some o→_:=fun i o ho=>h (o,i) (List.mem_zipIdx_iff_getElem?.2 ho)
 refine ⟨fun i o ho e he hb=>?_,fun i j o ho hj ht=>?_⟩
 ·have:=key i o ho
  simp only [Bool.and_eq_true,List.all_eq_true] at this
  have:=this.1 e he
  simpa [hb] using this
 ·have:=key i o ho
  simp only [Bool.and_eq_true,List.all_eq_true] at this
  have:=this.2 j (by simpa using hj)
  simp only [ht,Bool.not_true,Bool.false_or,List.any_eq_true,Bool.and_eq_true,Bool.or_eq_true,beq_iff_eq,decide_eq_true_eq] at this
  obtain ⟨e,he,hb,h⟩:=this
  exact ⟨e,he,hb,h⟩
theorem Aq.drawn {B:Nat} {S:Nat→Prop} {θ:Nat→Loc} {M:Nat→Prop} {w:World} {a:Act} {st:St} (h:Aq N B S θ M w st a) (k:Nat):Aq N B S θ M { w with drawn:=k } st a:=
 ⟨h.size,fun i=>Al.mono (M':=M) (w:=w) (w':={ w with drawn:=k }) (fun _ _ _=>rfl) (fun _ _ h=>h) (h.tm i),
  fun n o hn=>Lu.mono (M:=M) (w:=w) (w':={ w with drawn:=k }) (M':=M) (θ':=θ) (fun _=>rfl) (h.ob n o hn) (fun _ _ hr _=>Al.mono (M':=M) (w:=w) (w':={ w with drawn:=k }) (fun _ _ _=>rfl) (fun _ _ h=>h) hr) (fun _ _ hp=>Cj.mono (M:=M) (M':=M) (w:=w) (w':={ w with drawn:=k }) (fun _ _ _=>rfl) (fun _ _ h=>h) hp),
  h.lv,h.inj,h.base,h.mlt,h.cl⟩
end
def Jo:Op→Bool
 | .call ⟨.builtin .append,_,_⟩=>true
 | _=>false
def Qk:Op→Bool
 | .store ..=>true
 | _=>false
def sil:Op→Bool
 | .move _ | .assign _ | .binOp .. | .unOp .. | .convert ..=>true
 | _=>false
section
variable {P:Program} {r:RB} {N:Nat} {all:List Oper} {d:Nat} {op:Op} {ρ ρ':Operand→AV} {os os':Nat→Option AO} {s:St}
theorem Ahv (h:sil op=true):qop op=true∧Cc op=false∧Dd op=false∧isM op=false:=by
 cases op <;> first | (simp [sil] at h; done) | exact ⟨rfl,rfl,rfl,rfl⟩
theorem Aa3 {d':Nat} (h:sil op=true):eff P d op ρ os=eff P d' op ρ os':=by
 cases op <;> first | (simp [sil] at h; done) | rfl
theorem Yk {op:BinOp} {t:TypeId} {a b:Option (List Int)} {e:Eff} (h:G2 P op t a b=some e):∃ v,e=.pure (.p v):=by
 unfold G2 at h
 split at h
 ·split at h
  ·split at h
   ·cases h; exact ⟨_,rfl⟩
   ·cases h; exact ⟨_,rfl⟩
   ·cases h
  ·cases h
 ·cases h
theorem Ua (h:sil op=true) {e:Eff} (he:eff P d op ρ os=some e):∃ y,e=.pure y:=by
 cases op <;> simp only [sil,Bool.false_eq_true] at h
 ·cases he; exact ⟨_,rfl⟩
 ·cases he; exact ⟨_,rfl⟩
 ·simp only [eff] at he
  split at he
  ·split at he
   ·obtain ⟨v,_,rfl⟩:=Option.map_eq_some_iff.1 he; exact ⟨_,rfl⟩
   ·cases he
  ·obtain ⟨v,_,rfl⟩:=Option.map_eq_some_iff.1 he; exact ⟨_,rfl⟩
  ·obtain ⟨v,rfl⟩:=Yk he; exact ⟨_,rfl⟩
  ·cases he
 ·simp only [eff] at he
  split at he <;> first | (cases he; done) | (cases he; exact ⟨_,rfl⟩)
 ·simp only [eff] at he
  split at he
  ·split at he
   ·cases he; exact ⟨_,rfl⟩
   ·cases he
  ·cases he
theorem B8 (n:Nat) (x:AV):x.purge n=x∨x.purge n=.undef:=by
 unfold AV.purge; split
 ·exact .inl rfl
 ·exact .inr rfl
theorem Acg (h:sil op=true) {n:Nat} (hρ:∀ x ∈ op.operands.toList,ρ' x=(ρ x).purge n) {y:AV} (he:eff P d op ρ' os=some (.pure y)):∃ y',eff P d op ρ os=some (.pure y')∧y=y'.purge n:=by
 cases op <;> simp only [sil,Bool.false_eq_true] at h
 ·rename_i x
  have he:some (Eff.pure (ρ' x))=some (.pure y):=he
  cases he
  exact ⟨ρ x,rfl,hρ x (by simp [Op.operands])⟩
 ·rename_i x
  have he:some (Eff.pure (ρ' x))=some (.pure y):=he
  cases he
  exact ⟨ρ x,rfl,hρ x (by simp [Op.operands])⟩
 ·rename_i b t x z u
  have e1:=hρ x (by simp [Op.operands])
  have e2:=hρ z (by simp [Op.operands])
  have key:∀ {y},eff P d (.binOp b t x z u) ρ os=some (.pure y)→y.purge n=y:=fun {y} he=>by
   simp only [eff] at he
   split at he
   ·split at he
    ·obtain ⟨v,_,hv⟩:=Option.map_eq_some_iff.1 he; cases hv; rfl
    ·cases he
   ·obtain ⟨v,_,hv⟩:=Option.map_eq_some_iff.1 he; cases hv; rfl
   ·obtain ⟨v,hv⟩:=Yk he; cases hv; rfl
   ·cases he
  rcases B8 n (ρ x) with h1 | h1
  ·rcases B8 n (ρ z) with h2 | h2
   ·have:eff P d (.binOp b t x z u) ρ os=some (.pure y):=by
     rw [h1] at e1; rw [h2] at e2
     simp only [eff,e1,e2] at he ⊢
     exact he
    exact ⟨y,this,(key this).symm⟩
   ·rw [h2] at e2
    simp only [eff,e2] at he
    split at he <;> simp_all
  ·rw [h1] at e1
   simp only [eff,e1] at he
   cases he
 ·rename_i b t x
  have e1:=hρ x (by simp [Op.operands])
  have key:∀ {y},eff P d (.unOp b t x) ρ os=some (.pure y)→y.purge n=y:=fun {y} he=>by
   simp only [eff] at he
   split at he <;> first | (cases he; done) | (cases he; rfl)
  rcases B8 n (ρ x) with h1 | h1
  ·have:eff P d (.unOp b t x) ρ os=some (.pure y):=by
    rw [h1] at e1
    simp only [eff,e1] at he ⊢
    exact he
   exact ⟨y,this,(key this).symm⟩
  ·rw [h1] at e1
   simp only [eff,e1] at he
   first
    | (cases he; done)
    | (split at he <;> simp_all)
 ·rename_i u t x
  have e1:=hρ x (by simp [Op.operands])
  have key:∀ {y},eff P d (.convert u t x) ρ os=some (.pure y)→y.purge n=y:=fun {y} he=>by
   simp only [eff] at he
   split at he
   ·split at he
    ·cases he; rfl
    ·cases he
   ·cases he
  rcases B8 n (ρ x) with h1 | h1
  ·have:eff P d (.convert u t x) ρ os=some (.pure y):=by
    rw [h1] at e1
    simp only [eff,e1] at he ⊢
    exact he
   exact ⟨y,this,(key this).symm⟩
  ·rw [h1] at e1
   simp only [eff,e1] at he
   first
    | (cases he; done)
    | (split at he <;> simp_all)
theorem H3 (h:Jo op=true) {e:Eff} (he:eff P d op ρ os=some e):(∃ k es len,e=.new (.arr k es) (.own d len))∨∃ n k es len,e=.app n (.arr k es) (.own d len):=by
 unfold Jo at h
 split at h
 ·rename_i as ts
  simp only [eff] at he
  split at he
  ·split at he
   ·split at he
    ·split at he
     ·split at he
      ·split at he
       ·cases he; exact .inl ⟨_,_,_,rfl⟩
       ·cases he
      ·split at he
       ·split at he
        ·cases he; exact .inr ⟨_,_,_,_,rfl⟩
        ·cases he
       ·cases he
      ·cases he
     ·cases he
    ·cases he
   ·cases he
  ·cases he
 ·cases h
theorem Gp (h:Jo op=true) (hρ:∀ x ∈ op.operands.toList,ρ' x=ρ x):eff P d op ρ' os=eff P d op ρ os:=by
 unfold Jo at h
 split at h
 ·rename_i as ts
  have hm:∀ x ∈ as.toList,ρ' x=ρ x:=fun x hx=>hρ x (by simp [Op.operands,Call.operands]; simpa using hx)
  simp only [eff]
  cases hts:ts.toList with
  | nil=>rfl
  | cons t r=>cases r with
   | nil=>rfl
   | cons t' r=>cases r with
    | cons _ _=>rfl
    | nil=>cases hargs:as.toList with
     | nil=>rfl
     | cons x l=>cases l with
      | nil=>rfl
      | cons y l=>cases l with
       | cons _ _=>rfl
       | nil=>
        rw [hargs] at hm
        simp only [hm x (by simp),hm y (by simp)]
 ·cases h
theorem Rz (h:Qk op=true) (hρ:∀ x ∈ op.operands.toList,ρ' x=ρ x):eff P d op ρ' os=eff P d op ρ os:=by
 cases op <;> simp only [Qk,Bool.false_eq_true] at h
 rename_i t x v
 simp only [eff,hρ x (by simp [Op.operands]),hρ v (by simp [Op.operands])]
theorem Mf {os:Nat→Option AO}:∀ {vs cs:List AV} {off:Nat},(∀ (i:Nat) (y:AV),cs[i]?=some y→y.lives os)→(∀ (i:Nat) (y:AV),vs[i]?=some y→y.lives os)→∀ (i:Nat) (y:AV),(A0 cs off vs)[i]?=some y→y.lives os
 | [],cs,off,h1,_=>h1
 | v :: vs,cs,off,h1,h2=>by
  simp only [A0]
  refine Mf (fun i y hi=>?_) (fun i y hi=>h2 (i+1) y (by simpa using hi))
  rw [List.getElem?_set] at hi
  split at hi
  ·split at hi
   ·cases hi; exact h2 0 v rfl
   ·cases hi
  ·exact h1 i y hi
theorem Kh (h:Qk op=true) (hc:s.closed) {e:Eff} (he:eff P d op (ev s.t) s.o=some e):∃ n o,e=.upd n o∧o.lives s.o∧(s.o n).isSome=true:=by
 cases op <;> simp only [Qk,Bool.false_eq_true] at h
 rename_i t x v
 simp only [eff] at he
 split at he
 ·rename_i vs g hvs hg
  split at he
  ·split at he
   ·rename_i n off hx
    split at he
    ·rename_i cs hn
     split at he
     ·cases he
      exact ⟨_,_,rfl,AO.lives_cells.2 (Mf (AO.lives_cells.1 (hc.2 n _ hn)) (M8 (Kr hc v) hvs)),by rw [hn]; rfl⟩
     ·cases he
    ·cases he
   ·rename_i n k i off hx
    split at he
    ·rename_i k' es ps hn hps
     split at he
     ·cases he
      exact ⟨_,_,rfl,AO.lives_arr _ _ _,by rw [hn]; rfl⟩
     ·cases he
    ·cases he
   ·cases he
  ·cases he
 ·cases he
theorem E6 (hc:s.closed) (n:Nat):(s.purge n).closed:=by
 have hkeep:∀ m,m≠n→(s.o m).isSome=true→((s.purge n).o m).isSome=true:=fun m hm hs=>by
  rw [St.purge_o_other s hm,Option.isSome_map]; exact hs
 refine ⟨fun i=>AV.lives_purge hkeep (hc.1 i),fun m o hm=>?_⟩
 by_cases e:m=n
 ·subst e; rw [St.purge_o_same] at hm; cases hm
 ·rw [St.purge_o_other s e,Option.map_eq_some_iff] at hm
  obtain ⟨o',h1,rfl⟩:=hm
  exact AO.lives_purge hkeep (hc.2 m o' h1)
theorem Js (hc:s.closed) {n:Nat} {o:AO} (ho:o.lives s.o):(s.setO n o).closed:=by
 have hm:∀ m,(s.o m).isSome=true→((s.setO n o).o m).isSome=true:=fun m hm=>by
  show (upd s.o n (some o) m).isSome=true
  unfold upd; split
  ·rfl
  ·exact hm
 refine ⟨fun i=>AV.lives_mono hm (hc.1 i),fun m o' ho'=>?_⟩
 have ho':upd s.o n (some o) m=some o':=ho'
 unfold upd at ho'
 split at ho'
 ·cases ho'; exact AO.lives_mono hm ho
 ·exact AO.lives_mono hm (hc.2 m o' ho')
theorem Bi {o:Oper} {rest:List Oper} {K:St→Prop} (hg:o.guard=none) (hc:Cc o.op=false) (hd:Dd o.op=false) (hM:isM o.op=false) :
  EL P r N all (o :: rest) s K↔Bx N o.dst=true∧∃ e s',eff P (r.b+o.dst.getD 0) o.op (ev s.t) s.o=some e∧e.apply r.b o.dst s=some s'∧EL P r N all rest s' K:=by
 simp only [EL,hg,EO,hM,Rs hc,hc,hd,Bool.false_eq_true,if_false,true_and]
 unfold EA
 constructor
 ·rintro ⟨h1,h2⟩
  refine ⟨h1,?_⟩
  split at h2
  ·rename_i e he
   split at h2
   ·rename_i s' hs'
    exact ⟨e,s',he,hs',h2⟩
   ·exact h2.elim
  ·exact h2.elim
 ·rintro ⟨h1,e,s',he,hs',h2⟩
  refine ⟨h1,?_⟩
  simp only [he,hs']
  exact h2
theorem Gs (h:Jo op=true):Cc op=false∧Dd op=false∧isM op=false:=by
 unfold Jo at h
 split at h
 ·exact ⟨rfl,rfl,rfl⟩
 ·cases h
theorem Nh (h:Qk op=true):Cc op=false∧Dd op=false∧isM op=false:=by
 cases op <;> first | (simp [Qk] at h; done) | exact ⟨rfl,rfl,rfl⟩
theorem Dr {nb:Nat} {dst:Option Nat} {a:AO} {x:AV} {s':St} (h:(Eff.new a x).apply nb dst s=some s'):∃ d,dst=some d∧s.o (nb+d)=none∧s'=(s.setO (nb+d) a).put (some d) x:=by
 cases dst with
 | none=>simp [Eff.apply] at h
 | some d=>
  simp only [Eff.apply] at h
  split at h
  ·rename_i hb
   cases h
   simp only [Option.isNone_iff_eq_none] at hb
   exact ⟨d,rfl,hb,rfl⟩
  ·cases h
theorem Fl {nb:Nat} {dst:Option Nat} {n:Nat} {a:AO} {x:AV} {s':St} (h:(Eff.app n a x).apply nb dst s=some s'):∃ d,dst=some d∧(s.purge n).o (nb+d)=none∧s'=((s.purge n).setO (nb+d) a).put (some d) x:=by
 cases dst with
 | none=>simp [Eff.apply] at h
 | some d=>
  simp only [Eff.apply] at h
  split at h
  ·rename_i hb
   cases h
   simp only [Option.isNone_iff_eq_none] at hb
   exact ⟨d,rfl,hb,rfl⟩
  ·cases h
theorem Ajo {o:Oper} (h:Jo o.op=true) (hg:o.guard=none):H6 P r N all o:=by
 intro l l' s K hc hl hE
 obtain ⟨f1,f2,f3⟩:=Gs h
 rw [Bi hg f1 f2 f3] at hE ⊢
 obtain ⟨h1,e,s',he,hs',h2⟩:=hE
 refine ⟨h1,e,s',he,hs',hl s' ?_ h2⟩
 rcases H3 h he with ⟨k,es,len,rfl⟩ | ⟨n,k,es,len,rfl⟩
 ·obtain ⟨d,hd,_,rfl⟩:=Dr hs'
  exact Dw hc (AO.lives_arr _ _ _) (fun m hm=>by rw [hd] at hm; exact Eh m hm)
 ·obtain ⟨d,hd,_,rfl⟩:=Fl hs'
  exact Dw (E6 hc n) (AO.lives_arr _ _ _) (fun m hm=>by rw [hd] at hm; exact Eh m hm)
theorem Acx {t:Nat→AV} {n:Nat} (x:Operand):ev (fun i=>(t i).purge n) x=(ev t x).purge n:=by
 have key:(∀ i,x≠.tmp i)→(ev t x).purge n=ev t x:=fun h=>by
  unfold AV.purge
  split
  ·rfl
  ·rename_i hc
   obtain ⟨i,hi⟩:=Adq (t:=t) (by simpa using hc)
   exact absurd hi (h i)
 cases x with
 | tmp i=>rfl
 | const v=>exact (key (fun i h=>by cases h)).symm
 | global v=>exact (key (fun i h=>by cases h)).symm
 | func v=>exact (key (fun i h=>by cases h)).symm
theorem Dh {o:Oper} {x:Operand} (hx:x ∈ o.op.operands.toList) {i:Nat} (hi:x=.tmp i):i ∈ o.looksAt all.toArray:=by
 subst hi
 exact List.mem_append_left _ (List.mem_filterMap.2 ⟨.tmp i,hx,rfl⟩)
theorem Py {t:Nat→AV} {d:Nat} {y:AV} {x:Operand} (h:x≠.tmp d):ev (upd t d y) x=ev t x:=by
 cases x with
 | tmp i=>exact Ar (fun e=>h (by rw [e]))
 | _=>rfl
theorem Lv {s:St} {dst:Option Nat} {y:AV} {x:Operand} (h:∀ d,dst=some d→x≠.tmp d):ev (s.put dst y).t x=ev s.t x:=by
 cases dst with
 | none=>rfl
 | some d=>exact Py (h d rfl)
theorem Dl {α:Type} {f:Nat→α} {a b:Nat} {x y:α} (h:a≠b):upd (upd f a x) b y=upd (upd f b y) a x:=by
 funext i
 unfold upd
 by_cases h1:i=a
 ·subst h1; simp [h]
 ·simp [h1]
theorem Ww {j i:Oper} (hj:Jo j.op=true) (hjg:j.guard=none) (hi:sil i.op=true) (hig:i.guard=none) (hap:j.apart all.toArray i=true):Jq P r N all j i:=by
 intro l s K hc hE
 obtain ⟨f1,f2,f3⟩:=Gs hj
 obtain ⟨q1,q2,q3,q4⟩:=Ahv hi
 obtain ⟨a1,a2,a3⟩:=Oper.apart_spec hap
 rw [Bi hjg f1 f2 f3] at hE
 obtain ⟨h1,e,s1,he,hs1,h2⟩:=hE
 rw [Bi hig q2 q3 q4] at h2
 obtain ⟨h3,e2,s2,he2,hs2,h4⟩:=h2
 obtain ⟨y,rfl⟩:=Ua hi he2
 have hs2:s2=s1.put i.dst y:=by cases hs2; rfl
 have hlook:∀ x ∈ i.op.operands.toList,∀ d,j.dst=some d→x≠.tmp d:=fun x hx d hd hxd=>a1 d hd (Dh hx hxd)
 have hlook2:∀ x ∈ j.op.operands.toList,∀ d,i.dst=some d→x≠.tmp d:=fun x hx d hd hxd=>a3 d hd (Dh hx hxd)
 have main:∃ y',eff P (r.b+i.dst.getD 0) i.op (ev s.t) s.o=some (.pure y')∧e.apply r.b j.dst (s.put i.dst y')=some s2:=by
  rcases H3 hj he with ⟨k,es,len,rfl⟩ | ⟨n,k,es,len,rfl⟩
  ·obtain ⟨d,hd,hn,rfl⟩:=Dr hs1
   refine ⟨y,?_,?_⟩
   ·rw [Aa3 (os':=((s.setO (r.b+d) (.arr k es)).put (some d) (.own (r.b+j.dst.getD 0) len)).o) (d':=r.b+i.dst.getD 0) hi]
    rw [← he2]
    refine (Kw q1 q2 ⟨fun x hx=>?_,fun x hx n hn=>rfl⟩).symm
    exact Py (hlook x hx d hd)
   ·rw [hs2,hd]
    have:((s.put i.dst y).o (r.b+d)).isNone=true:=by
     have:(s.put i.dst y).o (r.b+d)=none:=by cases i.dst <;> exact hn
     rw [this]; simp
    simp only [Eff.apply,this,if_true,Option.some.injEq]
    cases hid:i.dst with
    | none=>rfl
    | some d2=>
     have hne:d2≠d:=fun e=>a2 d hd (by rw [hid,e])
     simp only [St.put,St.setO,Dl hne]
  ·obtain ⟨d,hd,hn,rfl⟩:=Fl hs1
   have hρ:∀ x ∈ i.op.operands.toList,ev (((s.purge n).setO (r.b+d) (.arr k es)).put (some d) (.own (r.b+j.dst.getD 0) len)).t x=(ev s.t x).purge n:=fun x hx=>by
    rw [show ev (((s.purge n).setO (r.b+d) (.arr k es)).put (some d) (.own (r.b+j.dst.getD 0) len)).t x=ev (s.purge n).t x from Py (hlook x hx d hd)]
    exact Acx x
   obtain ⟨y',h5,h6⟩:=Acg hi hρ he2
   refine ⟨y',by rw [Aa3 hi]; exact h5,?_⟩
   rw [hs2,hd]
   have hp:((s.put i.dst y').purge n).o=(s.purge n).o:=by cases i.dst <;> rfl
   have:(((s.put i.dst y').purge n).o (r.b+d)).isNone=true:=by
    rw [hp,hn]; simp
   simp only [Eff.apply,this,if_true,Option.some.injEq]
   cases hid:i.dst with
   | none=>rfl
   | some d2=>
    have hne:d2≠d:=fun e=>a2 d hd (by rw [hid,e])
    simp only [St.put,St.setO]
    congr 1
    show upd (fun i=>(upd s.t d2 y' i).purge n) d _=upd (upd (fun i=>(s.t i).purge n) d _) d2 y
    rw [Dl (Ne.symm hne)]
    congr 1
    funext q
    unfold upd
    by_cases hq:q=d2
    ·subst hq; simp [h6]
    ·simp [hq]
 obtain ⟨y',h5,h6⟩:=main
 rw [Bi hig q2 q3 q4]
 refine ⟨h3,.pure y',s.put i.dst y',h5,rfl,?_⟩
 rw [Bi hjg f1 f2 f3]
 refine ⟨h1,e,s2,?_,h6,h4⟩
 rw [show (s.put i.dst y').o=s.o by cases i.dst <;> rfl,← he]
 exact Gp hj fun x hx=>Lv (hlook2 x hx)
theorem W7 {j i:Oper} (hj:sil j.op=true) (hjg:j.guard=none) (hi:Qk i.op=true) (hig:i.guard=none) (hid:i.dst=none) (hap:j.apart all.toArray i=true):Jq P r N all j i:=by
 intro l s K hc hE
 obtain ⟨f1,f2,f3⟩:=Nh hi
 obtain ⟨q1,q2,q3,q4⟩:=Ahv hj
 obtain ⟨a1,a2,a3⟩:=Oper.apart_spec hap
 rw [Bi hjg q2 q3 q4] at hE
 obtain ⟨h1,e,s1,he,hs1,h2⟩:=hE
 obtain ⟨y,rfl⟩:=Ua hj he
 cases hs1
 rw [Bi hig f1 f2 f3] at h2
 obtain ⟨h3,e2,s2,he2,hs2,h4⟩:=h2
 have ho:(s.put j.dst y).o=s.o:=by cases j.dst <;> rfl
 have he2':eff P (r.b+i.dst.getD 0) i.op (ev s.t) s.o=some e2:=by
  rw [← he2,ho]
  exact (Rz hi fun x hx=>Lv (fun d hd hxd=>a1 d hd (Dh hx hxd))).symm
 obtain ⟨n,ob,rfl,h5,_⟩:=Kh hi hc he2'
 rw [Bi hig f1 f2 f3]
 refine ⟨h3,.upd n ob,s.setO n ob,he2',by rw [hid]; rfl,?_⟩
 rw [Bi hjg q2 q3 q4]
 refine ⟨h1,.pure y,(s.setO n ob).put j.dst y,?_,rfl,?_⟩
 ·rw [← he]; exact Aa3 hj
 ·rw [hid] at hs2
  have:s2=(s.setO n ob).put j.dst y:=by cases hs2; cases j.dst <;> rfl
  rw [← this]; exact h4
def Tt (v:List Nat) (ops:List Oper) (oj oi:Oper):Bool:=
 (qop oj.op&&qop oi.op&&!isV v oj.op&&!isV v oi.op||Jo oj.op&&oj.guard.isNone&&sil oi.op&&oi.guard.isNone||sil oj.op&&oj.guard.isNone&&Qk oi.op&&oi.guard.isNone&&oi.dst.isNone)&&oj.apart ops.toArray oi
def Un (v:List Nat) (ops:List Oper) (b:Nat→Nat):Bool:=ops.zipIdx.all fun p=>(ops.take p.2).zipIdx.all fun q=>(b p.2).testBit q.2||Tt v ops q.1 p.1
def Arl (v:List Nat) (ops:List Oper):Bool:=Jx ops [] fun l=>My ops (fun i=>l.getD i 0)&&Un v ops (fun i=>l.getD i 0)
theorem Pv {ops:List Oper} {oj oi:Oper} (h:Tt r.v ops oj oi=true):H6 P r N ops oj∧Jq P r N ops oj oi:=by
 simp only [Tt,Bool.and_eq_true,Bool.or_eq_true,Option.isNone_iff_eq_none] at h
 obtain ⟨(h | h) | h,hap⟩:=h
 ·exact ⟨Ep h.1.1.1 (by simpa using h.1.2),Abc h.1.1.1 h.1.1.2 (by simpa using h.1.2) (by simpa using h.2) hap⟩
 ·exact ⟨Ajo h.1.1.1 h.1.1.2,Ww h.1.1.1 h.1.1.2 h.1.2 h.2 hap⟩
 ·exact ⟨Ep (Ahv h.1.1.1.1).1 (Rs (Ahv h.1.1.1.1).2.1),W7 h.1.1.1.1 h.1.1.1.2 h.1.1.2 h.1.2 h.2 hap⟩
theorem Ws {ops:List Oper} {b:Nat→Nat} (h:Un r.v ops b=true):∀ (i j:Nat) (oi oj:Oper),j < i→ops[i]?=some oi→ops[j]?=some oj→(b i).testBit j=false→H6 P r N ops oj∧Jq P r N ops oj oi:=by
 intro i j oi oj hj hi hoj ht
 unfold Un at h
 rw [List.all_eq_true] at h
 have h1:=h (oi,i) (List.mem_zipIdx_iff_getElem?.2 hi)
 rw [List.all_eq_true] at h1
 have h2:=h1 (oj,j) (List.mem_zipIdx_iff_getElem?.2 (by rw [List.getElem?_take,if_pos hj]; exact hoj))
 simp only [ht,Bool.false_or] at h2
 exact Pv h2
theorem Ut {ops:List Oper} {id:Nat} {st:St} {Q:AEx→St→Prop} (hm:P.follows .mixedOrders=true) {b:Nat→Nat} (hb:Sk ops b)
  (hsw:∀ (i j:Nat) (oi oj:Oper),j < i→ops[i]?=some oi→ops[j]?=some oj→(b i).testBit j=false→H6 P r N ops oj∧Jq P r N ops oj oi) (h:EL P r N ops ops st (Q .normal)):AWP P r N (.region id ops.toArray true) st Q:=by
 intro B S θ M w a hs
 refine wpIn_region_any hm ?_
 have hrem:Br ops.length (Array.replicate ops.length false)=List.range ops.length:=Hz _
 refine Aob hb hsw ops.toArray.size (Array.replicate ops.toArray.size false) st B S θ M _ a (hs.drawn _) (by simp) (fun k o hk hL=>?_) ?_ ?_ (fun s' a' w' hk hF=>⟨.normal,s',rfl,hk,?_⟩)
 ·simp only [Array.getD_eq_getD_getElem?,Array.getElem?_replicate] at hL
  split at hL <;> simp at hL
 ·simp only [List.size_toArray]; rw [hrem]; simp
 ·simp only [List.size_toArray]; rw [hrem,C1]; exact h
 ·obtain ⟨⟨θ',M',h1,h2,h3,h4⟩,h5⟩:=hF
  exact ⟨⟨θ',M',h1,⟨h2.size,h2.same,h2.os,h2.tape,h2.output⟩,h3,h4⟩,h5⟩
theorem Ce {ops:List Oper} {id:Nat} {st:St} {Q:AEx→St→Prop} (hm:P.follows .mixedOrders=true) (hchk:Arl r.v ops=true) (h:EL P r N ops ops st (Q .normal)):AWP P r N (.region id ops.toArray true) st Q:=by
 obtain ⟨l,hl⟩:=Hu hchk
 rw [Bool.and_eq_true] at hl
 exact Ut hm (Ft hl.1) (Ws hl.2) h
end
def leT (t:Nat→AV):List (Nat × AV)→Prop
 | []=>True
 | (j,x) :: r=>t j=x∧leT t r
def leO (o:Nat→Option AO):List (Nat × AO)→Prop
 | []=>True
 | (j,x) :: r=>o j=some x∧leO o r
theorem A2 (t:Nat→AV):leT t []=True:=rfl
theorem Av (t:Nat→AV) (j:Nat) (x:AV) (r:List (Nat × AV)):leT t ((j,x) :: r)=(t j=x∧leT t r):=rfl
theorem Ba (t:Nat→Option AO):leO t []=True:=rfl
theorem A4 (t:Nat→Option AO) (j:Nat) (x:AO) (r:List (Nat × AO)):leO t ((j,x) :: r)=(t j=some x∧leO t r):=rfl
mutual
def nm (ks:List Nat):AV→Bool
 | .p _=>true
 | .ptr m _=>ks.contains m
 | .eptr m _ _ _=>ks.contains m
 | .own m _=>ks.contains m
 | .csl m _ _ _=>ks.contains m
 | .fn _ fs cs=>nmL ks fs&&nmL ks cs
 | .yld m=>ks.contains m
 | .mp m=>ks.contains m
 | .agg cs=>nmL ks cs
 | .tup cs=>nmL ks cs
 | .undef=>true
def nmL (ks:List Nat):List AV→Bool
 | []=>true
 | x :: r=>nm ks x&&nmL ks r
end
def nmO (ks:List Nat):AO→Bool
 | .cells cs=>nmL ks cs
 | .arr _ _=>true
 | .obj _=>true
 | .it m _=>ks.contains m
 | .loop _ tm=>nmL ks (tm.map (·.2))
def nmT (ks:List Nat):List (Nat × AV)→Bool
 | []=>true
 | (_,x) :: r=>nm ks x&&nmT ks r
def T7 (ks:List Nat):List (Nat × AO)→Bool
 | []=>true
 | (_,x) :: r=>nmO ks x&&T7 ks r
def Ks:List (Nat × AO)→List Nat
 | []=>[]
 | (j,_) :: r=>j :: Ks r
theorem Ho {m:List (Nat × AO)} {n:Nat} (h:(Ks m).contains n=true):(O m n).isSome=true:=by
 induction m with
 | nil=>simp [Ks] at h
 | cons p r ih=>
  obtain ⟨j,x⟩:=p
  simp only [O]
  split
  ·rfl
  ·rename_i hne
   refine ih ?_
   simp only [Ks,List.contains_cons,Bool.or_eq_true,beq_iff_eq] at h
   rcases h with h | h
   ·exact absurd h hne
   ·exact h
mutual
theorem T0 {m:List (Nat × AO)}:∀ (x:AV),nm (Ks m) x=true→∀ n,x.clean n=false→(O m n).isSome=true
 | .p _,_,n,hn=>by simp [AV.clean] at hn
 | .ptr k _,h,n,hn=>by simp only [AV.clean,bne_eq_false_iff_eq] at hn; subst hn; exact Ho h
 | .eptr k _ _ _,h,n,hn=>by simp only [AV.clean,bne_eq_false_iff_eq] at hn; subst hn; exact Ho h
 | .own k _,h,n,hn=>by simp only [AV.clean,bne_eq_false_iff_eq] at hn; subst hn; exact Ho h
 | .csl k _ _ _,h,n,hn=>by simp only [AV.clean,bne_eq_false_iff_eq] at hn; subst hn; exact Ho h
 | .yld k,h,n,hn=>by simp only [AV.clean,bne_eq_false_iff_eq] at hn; subst hn; exact Ho h
 | .mp k,h,n,hn=>by simp only [AV.clean,bne_eq_false_iff_eq] at hn; subst hn; exact Ho h
 | .fn f fs cs,h,n,hn=>by
  simp only [nm,Bool.and_eq_true] at h
  simp only [AV.clean,Bool.and_eq_false_iff] at hn
  rcases hn with hn | hn
  ·exact Gr fs h.1 n hn
  ·exact Gr cs h.2 n hn
 | .agg cs,h,n,hn=>Gr cs h n (by simpa [AV.clean] using hn)
 | .tup cs,h,n,hn=>Gr cs h n (by simpa [AV.clean] using hn)
 | .undef,_,n,hn=>by simp [AV.clean] at hn
theorem Gr {m:List (Nat × AO)}:∀ (l:List AV),nmL (Ks m) l=true→∀ n,AV.clean.cleanL n l=false→(O m n).isSome=true
 | [],_,n,hn=>by simp [AV.clean.cleanL] at hn
 | x :: r,h,n,hn=>by
  simp only [nmL,Bool.and_eq_true] at h
  simp only [AV.clean.cleanL,Bool.and_eq_false_iff] at hn
  rcases hn with hn | hn
  ·exact T0 x h.1 n hn
  ·exact Gr r h.2 n hn
end
theorem Ajb {l:List (Nat × AV)} {m:List (Nat × AO)} (h1:nmT (Ks m) l=true) (h2:T7 (Ks m) m=true):(⟨T l,O m⟩:St).closed:=by
 refine ⟨fun i=>?_,fun k o ho=>?_⟩
 ·show (T l i).lives (O m)
  induction l with
  | nil=>exact AV.lives_undef _
  | cons p r ih=>
   obtain ⟨j,x⟩:=p
   simp only [nmT,Bool.and_eq_true] at h1
   simp only [T]
   split
   ·exact fun n hn=>T0 x h1.1 n hn
   ·exact ih h1.2
 ·show o.lives (O m)
  have key:∀ m':List (Nat × AO),T7 (Ks m) m'=true→O m' k=some o→nmO (Ks m) o=true:=by
   intro m'
   induction m' with
   | nil=>intro _ h; cases h
   | cons p r ih=>
    obtain ⟨j,x⟩:=p
    intro h h'
    simp only [T7,Bool.and_eq_true] at h
    simp only [O] at h'
    split at h'
    ·cases h'; exact h.1
    ·exact ih h.2 h'
  have:=key m h2 ho
  cases o with
  | cells cs=>exact fun n hn=>Gr cs this n hn
  | arr k es=>exact AO.lives_arr _ _ _
  | obj X=>exact AO.lives_obj _ _
  | it k X=>exact fun n hn=>T0 (.ptr k 0) this n hn
  | loop k tm=>exact fun n hn=>Gr _ this n hn
theorem De {l1:List (Nat × AV)} {m1:List (Nat × AO)} {s:St} (h1:leT s.t l1) (h2:leO s.o m1) (h3:nmT (Ks m1) l1=true) (h4:T7 (Ks m1) m1=true):St.le ⟨T l1,O m1⟩ s:=by
 refine ⟨fun i=>?_,fun n=>?_,Ajb h3 h4⟩
 ·show T l1 i=.undef∨T l1 i=s.t i
  clear h3
  induction l1 with
  | nil=>exact .inl rfl
  | cons p r ih=>
   obtain ⟨j,x⟩:=p
   simp only [leT] at h1
   simp only [T]
   split
   ·rename_i h; subst h; exact .inr h1.1.symm
   ·exact ih h1.2
 ·show O m1 n=none∨O m1 n=s.o n
  clear h3 h4
  induction m1 with
  | nil=>exact .inl rfl
  | cons p r ih=>
   obtain ⟨j,x⟩:=p
   simp only [leO] at h2
   simp only [O]
   split
   ·rename_i h; subst h; exact .inr h2.1.symm
   ·exact ih h2.2
theorem Acq {P:Program} {r:RB} {N:Nat} {c:Code} {s:St} {Q:AEx→St→Prop} (l1:List (Nat × AV)) (m1:List (Nat × AO)) (h1:leT s.t l1) (h2:leO s.o m1) (h3:nmT (Ks m1) l1=true) (h4:T7 (Ks m1) m1=true) (h:AWP P r N c ⟨T l1,O m1⟩ Q):AWP P r N c s Q:=.weaken (De h1 h2 h3 h4) h
abbrev iv (n:Int):PV:=.val (.int .i64 n)
abbrev isl (l:List Int):AV:=.p (.sl (l.map fun n=>[iv n]))
theorem Cp {α β:Type} (f:α→β) {l:List α} {k:Nat} (d:β) (d':α) (h:k < l.length):(l.map f).getD k d=f (l.getD k d'):=by
 simp [List.getD,h]
theorem Ae3 {P:Program} {s:St} {i:Nat}:E2 P s (.tmp i)=Ew s.o (s.t i):=rfl
theorem Arz {os:Nat→Option AO} {x:PV}:Ew os (.p x)=some (.p x):=rfl
theorem Ait {P:Program} {s:St} {x:ResultVar}:(C6 P s [x]).map Df=(E2 P s x):=by
 simp only [C6]
 cases E2 P s x <;> rfl
section
variable {P:Program} {r:RB} {N:Nat} {s:St} {K:St→Prop} {dst:Option Nat} {ty:TypeId} {pos:String} {after:Array Edge} {g:Option (Nat × Bool)} {all rest:List Oper} {Q:AEx→St→Prop}
def ECk (P:Program) (r:RB) (N:Nat) (f:FuncId) (vargs:Option (List AV)) (args:List AV) (dst:Option Nat) (s:St) (K:St→Prop):Prop:=
 Bx N dst=true∧((A7 P f=true∧∃ args' res,vargs=some args'∧Bt P f args' res∧(res.scal=true∨args=args'∨Ahp P f args' res)∧K (s.put dst res)) ∨
  (A7 P f=true∧∃ args' k es d,vargs=some args'∧H0 P f args' k es∧dst=some d∧s.o (r.b+d)=none∧K ((s.setO (r.b+d) (.arr k es)).put dst (.own (r.b+d) es.length))))
def EOc (P:Program) (r:RB) (N:Nat) (f:FuncId) (as:List Operand) (dst:Option Nat) (s:St) (K:St→Prop):Bool→Bool→Prop
 | false,_=>ECk P r N f (Dg s.o (as.map (ev s.t))) (as.map (ev s.t)) dst s K
 | true,false=>EVk P r N (.fn (.func f) [] []) (as.map (ev s.t)) dst s K
 | true,true=>EVq P r N (.fn (.func f) [] []) (as.map (ev s.t)) dst s K
theorem Az0 {f:FuncId} {as:List Operand} {b:Bool}:EOc P r N f as dst s K false b=ECk P r N f (Dg s.o (as.map (ev s.t))) (as.map (ev s.t)) dst s K:=rfl
theorem Azp {f:FuncId} {as:List Operand}:EOc P r N f as dst s K true false=EVk P r N (.fn (.func f) [] []) (as.map (ev s.t)) dst s K:=rfl
theorem Bcc {f:FuncId} {as:List Operand}:EOc P r N f as dst s K true true=EVq P r N (.fn (.func f) [] []) (as.map (ev s.t)) dst s K:=rfl
theorem Agh {f:FuncId} {as:Array Operand} {ts:Array TypeId}:EO P r N ⟨dst,.call ⟨.value (.func f),as,ts⟩,ty,pos,after,g⟩ s K=EOc P r N f as.toList dst s K (r.v.contains f) (r.q.contains f):=by
 have e1:isV r.v (Op.call ⟨.value (.func f),as,ts⟩)=r.v.contains f:=rfl
 have e2:isQ r.q (.func f)=r.q.contains f:=rfl
 unfold EO
 rw [if_neg (by simp [isM])]
 simp only [e1]
 cases hv:r.v.contains f with
 | false=>rfl
 | true=>
  simp only [if_true]
  unfold EV
  simp only [e2]
  cases hq:r.q.contains f with
  | false=>rfl
  | true=>rfl
theorem Ad4 {i:Nat} {as:Array Operand} {ts:Array TypeId}:EO P r N ⟨dst,.call ⟨.value (.tmp i),as,ts⟩,ty,pos,after,g⟩ s K=EVk P r N (s.t i) (as.toList.map (ev s.t)) dst s K:=by
 unfold EO EV
 simp [isM,isV,isQ,ev]
theorem Aw {f:FuncId} {args args':List AV} {res:AV} (hf:A7 P f=true) (hd:Bx N dst=true) (hc:Bt P f args' res) (hs:res.scal=true∨args=args'∨Ahp P f args' res) (h:K (s.put dst res)):ECk P r N f (some args') args dst s K:=⟨hd,.inl ⟨hf,args',res,rfl,hc,hs,h⟩⟩
theorem V9 {f:FuncId} {args args':List AV} {k d:Nat} {es:List (List PV)} (hf:A7 P f=true) (hd:d < N) (hc:H0 P f args' k es) (hfree:s.o (r.b+d)=none) (h:K ((s.setO (r.b+d) (.arr k es)).put (some d) (.own (r.b+d) es.length))):ECk P r N f (some args') args (some d) s K:=⟨by simpa [Bx] using hd,.inr ⟨hf,args',k,es,d,rfl,hc,rfl,hfree,h⟩⟩
theorem Apy {bd:Nat} {fv:AV} {args:List AV} {res:AV} (hd:Bx N dst=true) (hc:Bg P bd fv args s.o (fun x os'=>x=res∧os'=s.o)) (hbd:∀ n,bd≤n→s.o n=none) (hb:r.b≤bd) (hp:res.isP=true) (h:K (s.put dst res)):EVq P r N fv args dst s K:=⟨hd,bd,res,hc,hbd,hb,hp,h⟩
def Arh (ks:List Nat):List (Nat × AV)→List (Nat × AV)
 | []=>[]
 | (j,x) :: l=>(j,if nm ks x=true then x else .undef) :: Arh ks l
theorem An3 {ks:List Nat}:Arh ks []=[]:=rfl
theorem Aj8 {ks:List Nat} {j:Nat} {x:AV} {l:List (Nat × AV)}:Arh ks ((j,x) :: l)=(j,if nm ks x=true then x else .undef) :: Arh ks l:=rfl
theorem Aej {os:Nat→Option AO}:Dg os []=some []:=rfl
def oc2 (x:Option AV) (y:Option (List AV)):Option (List AV):=match x,y with | some a,some b=>some (a :: b) | _,_=>none
theorem Acn {os:Nat→Option AO} {x:AV} {l:List AV}:Dg os (x :: l)=oc2 (Ew os x) (Dg os l):=by
 unfold oc2; rfl
theorem Ais {os:Nat→Option AO}:He os []=some []:=rfl
theorem Aes {os:Nat→Option AO} {x:AV} {l:List AV}:He os (x :: l)=oc2 (Fb os x) (He os l):=by
 unfold oc2; rfl
theorem Api {x:AV} {l:List AV}:oc2 (some x) (some l)=some (x :: l):=rfl
theorem Aig {os:Nat→Option AO} {cs:List AV}:Ew os (.agg cs)=(He os cs).map .agg:=rfl
theorem Ajd {os:Nat→Option AO} {n len:Nat}:Ew os (.own n len)=(C4 os (.own n len)).map fun es=>.p (.sl es):=rfl
theorem Aqj {os:Nat→Option AO} {x:PV}:Fb os (.p x)=some (.p x):=rfl
theorem Ajg {os:Nat→Option AO} {n len:Nat}:Fb os (.own n len)=(C4 os (.own n len)).map fun es=>.p (.sl es):=rfl
def elO (len:Nat):Option AO→Option (List (List PV))
 | some (.arr _ es)=>if len≤es.length then some (es.take len) else none
 | _=>none
theorem Ap6 {os:Nat→Option AO} {n len:Nat}:C4 os (.own n len)=elO len (os n):=by unfold elO; rfl
theorem Art {k len:Nat} {es:List (List PV)}:elO len (some (.arr k es))=if len≤es.length then some (es.take len) else none:=rfl
theorem Be {α:Type} (I:α→St) (μ:α→Nat) (ok:α→Prop) {c:Code} (x0:α) (h0:ok x0) (hle:(I x0).le s)
  (hstep:∀ x,ok x→∀ L:St→Prop,(∀ y s',ok y→μ y < μ x→(I y).le s'→L s')→AWP P r N c (I x) (Jr L Q)):AWP P r N (.loop c) s Q:=
 Aom I μ ok x0 h0 hle fun x hx=>hstep x hx _ fun y _ h1 h2 h3=>⟨y,h1,h2,h3⟩
end
end AM
namespace AM
open Go
theorem Amp {l:List Int} {k:Nat} (h:k < l.length):(l.map fun n=>[iv n]).getD k []=[iv (l.getD k 0)]:=Cp _ _ _ h
theorem Arn {c:Prop} [Decidable c] {α:Type} {a b:α} (h:c):(if c then a else b)=a:=if_pos h
end AM
namespace AM
open Go
theorem Aiy {d:Nat} {k:TK} {sz b:Nat} {z:List Value}:Apu d ⟨k,sz,b,z⟩=if z.all Value.oneCell'∧sz=z.length∧0 < sz∧(TI.agg ⟨k,sz,b,z⟩).isSome then some (.new (.cells (Eb z)) (.ptr d 0)) else none:=rfl
theorem Aqz {k:IntKind} {n:Int}:(Value.int k n).oneCell'=true:=rfl
theorem Aof {b:Bool}:(Value.bool b).oneCell'=true:=rfl
theorem Aji {a:Option Addr} {l c:Nat}:(Value.slice a l c).oneCell'=true:=rfl
theorem Arm {a:Option Addr}:(Value.pointer a).oneCell'=true:=rfl
theorem Ar5 {a:Option Nat}:(Value.map a).oneCell'=true:=rfl
theorem Aj2:Eb []=[]:=rfl
theorem Afy {v:Value} {l:List Value}:Eb (v :: l)=.p (.val v) :: Eb l:=rfl
theorem Aa2 {α:Type} {cs:List α} {off:Nat}:A0 cs off []=cs:=rfl
theorem Wv {α:Type} {cs vs:List α} {v:α} {off:Nat}:A0 cs off (v :: vs)=A0 (cs.set off v) (off+1) vs:=rfl
theorem Ap3:Lo []=some []:=rfl
def Axd (x:Option PV) (y:Option (List PV)):Option (List PV):=match x,y with | some a,some b=>some (a :: b) | _,_=>none
theorem Am7 {x:PV} {l:List AV}:Lo (.p x :: l)=Axd (some x) (Lo l):=by unfold Axd; rfl
theorem Aje {x:PV} {l:List PV}:Axd (some x) (some l)=some (x :: l):=rfl
theorem W3 {f:Int→Int→Int} {k:IntKind} {n:Int} {l:List AV}:B6 f (.p (.val (.int k n)) :: l)=(B6.go f k n l).map fun m=>.int k m:=rfl
theorem Aew {f:Int→Int→Int} {k:IntKind} {n:Int}:B6.go f k n []=some n:=rfl
theorem Ac3 {f:Int→Int→Int} {k:IntKind} {n m:Int} {l:List AV}:B6.go f k n (.p (.val (.int k m)) :: l)=B6.go f k (f n m) l:=by simp [B6.go]
end AM
namespace AM
open Go
section
variable {P:Program} {r:RB} {N:Nat} {s:St} {K:St→Prop} {dst:Option Nat} {ty:TypeId} {pos:String} {after:Array Edge} {g:Option (Nat × Bool)} {os:Nat→Option AO}
def Aeh (P:Program) (ti:TI) (ps:List (Nat × AV)):Option Eff:=
  if ti.zero.all Value.oneCell'∧ti.sz=ti.zero.length∧0 < ti.sz then
   match ti.k with
   | .struct fs=>if fs.all (fun f=>(Ab P f.2).agg.isSome)=false then none else (Bp (Eb ti.zero) (fun i=>(fs[i]?).map fun f=>(f.1,(Ab P f.2).sz)) ps).map fun cs=>.pure (.agg cs)
   | .arr _ e=>if (Ab P e).agg.isSome=false then none else (Bp (Eb ti.zero) (fun i=>some (i * (Ab P e).sz,(Ab P e).sz)) ps).map fun cs=>.pure (.agg cs)
   | _=>none
  else none
theorem Apf {t:TypeId} {parts:Array (Nat × Operand)}:EO P r N ⟨dst,.build t parts,ty,pos,after,g⟩ s K=EOp r.b N dst s K (Aeh P (Ab P t) (parts.toList.map fun p=>(p.1,ev s.t p.2))):=C7 rfl rfl rfl
theorem Wp {fs:List (Nat × Nat)} {sz b:Nat} {z:List Value} {ps:List (Nat × AV)}:Aeh P ⟨.struct fs,sz,b,z⟩ ps=if z.all Value.oneCell'∧sz=z.length∧0 < sz then (if fs.all (fun f=>(Ab P f.2).agg.isSome)=false then none else (Bp (Eb z) (fun i=>(fs[i]?).map fun f=>(f.1,(Ab P f.2).sz)) ps).map fun cs=>.pure (.agg cs)) else none:=rfl
theorem Ae8 {n e sz b:Nat} {z:List Value} {ps:List (Nat × AV)}:Aeh P ⟨.arr n e,sz,b,z⟩ ps=if z.all Value.oneCell'∧sz=z.length∧0 < sz then (if (Ab P e).agg.isSome=false then none else (Bp (Eb z) (fun i=>some (i * (Ab P e).sz,(Ab P e).sz)) ps).map fun cs=>.pure (.agg cs)) else none:=rfl
def Ana (zero:List AV) (place:Nat→Option (Nat × Nat)) (r:List (Nat × AV)):Option (Nat × Nat)→Option (List AV)→Option (List AV)
 | some (off,sz),some cs=>if cs.length=sz∧off+cs.length≤zero.length then Bp (A0 zero off cs) place r else none
 | _,_=>none
theorem Xe {zero:List AV} {place:Nat→Option (Nat × Nat)}:Bp zero place []=some zero:=rfl
theorem U1 {zero:List AV} {place:Nat→Option (Nat × Nat)} {i:Nat} {x:AV} {r:List (Nat × AV)}:Bp zero place ((i,x) :: r)=Ana zero place r (place i) x.cs?:=by
 rw [Bp]; unfold Ana; rfl
theorem Aeu {zero:List AV} {place:Nat→Option (Nat × Nat)} {r:List (Nat × AV)} {off sz:Nat} {cs:List AV}:Ana zero place r (some (off,sz)) (some cs)=if cs.length=sz∧off+cs.length≤zero.length then Bp (A0 zero off cs) place r else none:=rfl
def gBS (ti:TI) (d len:Nat):Option (List (List PV))→Option Eff
 | some es=>if es.length=len∧ti.agg.isSome∧len * ti.sz≤16777216∧(len=0∨(ti.sz=ti.zero.length∧0 < ti.sz)) then some (.new (.arr ti.sz es) (.own d len)) else none
 | none=>none
theorem Ab1 {ti:TI} {d len:Nat} {es:List (List PV)}:gBS ti d len (some es)=if es.length=len∧ti.agg.isSome∧len * ti.sz≤16777216∧(len=0∨(ti.sz=ti.zero.length∧0 < ti.sz)) then some (.new (.arr ti.sz es) (.own d len)) else none:=rfl
def fBS (P:Program) (d len:Nat) (ps:List (Nat × AV)):TK→Option Eff
 | .sl e=>gBS (Ab P e) d len (Bf (Ab P e).sz 0 ps)
 | _=>none
theorem Ao8 {d len e:Nat} {ps:List (Nat × AV)}:fBS P d len ps (.sl e)=gBS (Ab P e) d len (Bf (Ab P e).sz 0 ps):=rfl
theorem W4 {t:TypeId} {n:Nat} {parts:Array (Nat × Operand)}:EO P r N ⟨dst,.buildSlice t n parts,ty,pos,after,g⟩ s K=EOp r.b N dst s K (fBS P (r.b+dst.getD 0) n (parts.toList.map fun p=>(p.1,ev s.t p.2)) (Ab P t).k):=by
 refine C7 rfl rfl ?_
 simp only [eff]
 cases (Ab P t).k <;> simp only [fBS]
 unfold gBS
 cases Bf _ _ _ <;> rfl
def oPE (i j k:Nat) (x:Option (List PV)) (y:Option (List (List PV))):Option (List (List PV)):=match x,y with
 | some c,some es=>if j=i∧c.length=k then some (c :: es) else none
 | _,_=>none
theorem Wn {k i:Nat}:Bf k i []=some []:=rfl
theorem Vi {k i j:Nat} {x:AV} {l:List (Nat × AV)}:Bf k i ((j,x) :: l)=oPE i j k (x.cs?.bind Lo) (Bf k (i+1) l):=by
 rw [Bf]; unfold oPE; rfl
theorem Al2 {i j k:Nat} {c:List PV} {es:List (List PV)}:oPE i j k (some c) (some es)=if j=i∧c.length=k then some (c :: es) else none:=rfl
theorem Aa5 {i:Nat} {t:TypeId}:E2 P s (.cell i t)=match s.t i,(Ab P t).agg with
  | .ptr n off,some g=>match s.o n with
   | some (.cells cs)=>(Ai g (Ab P t).sz (cs.drop off)).bind (Ew s.o)
   | _=>none
  | _,_=>none:=rfl
def Aha (_:Program) (sz off:Nat) (g:Bool) (os:Nat→Option AO):Option AO→Option AV
 | some (.cells cs)=>(Ai g sz (cs.drop off)).bind (Ew os)
 | _=>none
theorem Ad2 {sz off:Nat} {b:Bool} {cs:List AV}:Aha P sz off b os (some (.cells cs))=(Ai b sz (cs.drop off)).bind (Ew os):=rfl
def Al9 (P:Program) (sz:Nat) (os:Nat→Option AO):AV→Option Bool→Option AV
 | .ptr n off,some g=>Aha P sz off g os (os n)
 | _,_=>none
theorem Ajf {sz n off:Nat} {b:Bool}:Al9 P sz os (.ptr n off) (some b)=Aha P sz off b os (os n):=rfl
theorem Acf {i:Nat} {t:TypeId}:E2 P s (.cell i t)=Al9 P (Ab P t).sz s.o (s.t i) (Ab P t).agg:=by
 rw [Aa5]; unfold Al9 Aha; rfl
def Azu (x y:Option AV):Option AV:=match x,y with | some a,some b=>some (.tup [a,b]) | _,_=>none
theorem Ail {x y:ResultVar}:(C6 P s [x,y]).map Df=Azu (E2 P s x) (E2 P s y):=by
 simp only [C6]
 cases E2 P s x <;> cases E2 P s y <;> rfl
theorem Aib {x y:AV}:Azu (some x) (some y)=some (.tup [x,y]):=rfl
theorem Aax {α:Type} (l:List α):[]++l=l:=rfl
end
end AM
namespace AM
open Go
theorem RB.b_mk {r:RX} {b:Nat} {v q:List Nat}:RB.b ⟨r,b,v,q⟩=b:=rfl
theorem RB.v_mk {r:RX} {b:Nat} {v q:List Nat}:RB.v ⟨r,b,v,q⟩=v:=rfl
theorem RB.q_mk {r:RX} {b:Nat} {v q:List Nat}:RB.q ⟨r,b,v,q⟩=q:=rfl
end AM
namespace AM
open Go
theorem Abj:Value.nilFunc.oneCell'=true:=rfl
theorem Ae9 (t:Nat→AV):ev t (.const .nilFunc)=.p (.val .nilFunc):=rfl
end AM
namespace AM
open Go
section
variable {P:Program} {r:RB} {N:Nat} {s:St} {K:St→Prop} {dst:Option Nat} {ty:TypeId} {pos:String} {after:Array Edge} {g:Option (Nat × Bool)}
def EMm (r:RB) (N:Nat) (dst:Option Nat) (s:St) (K:St→Prop):Prop:=∃ dd X,Anr X∧dst=some dd∧dd < N∧s.o (r.b+dd)=none∧K ((s.setO (r.b+dd) (.obj X)).put dst (.mp (r.b+dd)))
theorem Wg {t:TypeId}:EO P r N ⟨dst,.makeMap t none,ty,pos,after,g⟩ s K=EMm r N dst s K:=by unfold EO; rw [if_pos (by rfl)]; rfl
theorem Afm {d:Nat} (n:Nat) (gg:List Int→Value) (h1:d < N) (h2:s.o (r.b+d)=none) (h3:K ((s.setO (r.b+d) (.obj (Gb n gg))).put (some d) (.mp (r.b+d)))):EMm r N (some d) s K:=⟨d,_,.inl ⟨n,gg,rfl⟩,rfl,h1,h2,h3⟩
def EMl (P:Program) (N:Nat) (t:TypeId) (x i:AV) (dst:Option Nat) (s:St) (K:St→Prop):Prop:=Bx N dst=true∧∃ A B,LV P t x i s.o A B∧K (s.put dst A)∧K (s.put dst B)
theorem Yi {t:TypeId} {x i:Operand}:EO P r N ⟨dst,.lookup t x i true,ty,pos,after,g⟩ s K=EMl P N t (ev s.t x) (ev s.t i) dst s K:=by unfold EO; rw [if_pos (by rfl)]; rfl
theorem Af3 {t k e:TypeId} {m n:Nat} {gg:List Int→Value} {z:Value} {cs:List AV} {ks:List Int} (h0:Bx N dst=true) (h1:(Ab P t).k=.mp k e) (h2:∀ w,(zeroValue e).run P w=.ok z w) (f1:D7 z=true) (f2:D7 (gg ks)=true) (h3:La P k n) (h5:s.o m=some (.obj (Gb n gg))) (h7:Cn cs=some ks) (h8:ks.length=n) (h9:ks.all inR=true)
  (h10:K (s.put dst (.tup [Bc (gg ks),.p (.val (.bool true))]))) (h11:K (s.put dst (.tup [Bc z,.p (.val (.bool false))]))):EMl P N t (.mp m) (.agg cs) dst s K:=⟨h0,_,_,⟨k,e,m,n,z,cs,ks,h1,h2,f1,h3,rfl,rfl,h7,h8,h9,.inl ⟨gg,f2,h5,rfl,rfl⟩⟩,h10,h11⟩
def EMu (P:Program) (t:TypeId) (x i v:AV) (dst:Option Nat) (s:St) (K:St→Prop):Prop:=dst=none∧∃ s',UV P t x i v s s'∧K s'
theorem Q7 {t:TypeId} {x i v:Operand}:EO P r N ⟨dst,.mapUpdate t x i v,ty,pos,after,g⟩ s K=EMu P t (ev s.t x) (ev s.t i) (ev s.t v) dst s K:=by unfold EO; rw [if_pos (by rfl)]; rfl
theorem Afd {t k e:TypeId} {m n:Nat} {gg:List Int→Value} {cs:List AV} {ks:List Int} {y:AV} (h1:(Ab P t).k=.mp k e) (h3:La P k n) (h5:s.o m=some (.obj (Gb n gg))) (h7:Cn cs=some ks) (h8:ks.length=n) (h9:ks.all inR=true) (f1:D7 (gg ks)=true) (hy:y=Bc (gg ks)) (h11:K s):EMu P t (.mp m) (.agg cs) y none s K:=
 ⟨rfl,s,⟨k,e,m,n,cs,ks,h1,h3,rfl,rfl,h7,h8,h9,.inl ⟨gg,h5,f1,hy,rfl⟩⟩,h11⟩
end
def AV.known:AV→Bool
 | .undef=>false
 | _=>true
def Rr:AV→Option Nat
 | .ptr n _=>some n
 | .eptr n _ _ _=>some n
 | _=>none
inductive Cf where
 | sto (ts:List Nat) (x:Nat)
 | app (ts:List Nat)
def Cf.ok (t:Nat→AV):Cf→Bool
 | .sto ts x=>match Rr (t x) with
  | some n=>ts.all fun i=>(t i).known&&(t i).clean n
  | none=>false
 | .app ts=>ts.all fun i=>(t i).known
def Cf.temps:Cf→List Nat
 | .sto ts x=>x :: ts
 | .app ts=>ts
def Aah (v:List Nat) (o:Oper):Bool:=(qop o.op&&!isV v o.op)||(Qk o.op&&o.guard.isNone&&o.dst.isNone)||(Jo o.op&&o.guard.isNone)
section
variable {P:Program} {r:RB} {N:Nat} {all:List Oper}
theorem Asf {d:Nat} {t:TypeId} {x v:Operand} {ρ:Operand→AV} {os:Nat→Option AO} {e:Eff} (he:eff P d (.store t x v) ρ os=some e):∃ n o,e=.upd n o∧Rr (ρ x)=some n∧(os n).isSome=true∧∀ d' os',os' n=os n→eff P d' (.store t x v) ρ os'=some e:=by
 simp only [eff] at he
 split at he
 ·rename_i vs g hvs hg
  split at he
  ·rename_i hl
   split at he
   ·rename_i n off hx
    split at he
    ·rename_i cs hn
     split at he
     ·rename_i hc
      cases he
      refine ⟨n,_,rfl,by rw [hx]; rfl,by rw [hn]; rfl,fun d' os' ho=>?_⟩
      simp only [eff,hvs,hg,hx,ho,hn]
      rw [if_pos hl,if_pos hc]
     ·cases he
    ·cases he
   ·rename_i n k i off hx
    split at he
    ·rename_i k' es ps hn hp
     split at he
     ·rename_i hc
      cases he
      refine ⟨n,_,rfl,by rw [hx]; rfl,by rw [hn]; rfl,fun d' os' ho=>?_⟩
      simp only [eff,hvs,hg,hx,ho,hn,hp]
      rw [if_pos hl,if_pos hc]
     ·cases he
    ·cases he
   ·cases he
  ·cases he
 ·cases he
theorem Qn {x:AV} {n:Nat} (h:Rr x=some n):x.known=true∧x.clean n=false:=by
 unfold Rr at h
 split at h
 ·cases h; exact ⟨rfl,by simp [AV.clean]⟩
 ·cases h; exact ⟨rfl,by simp [AV.clean]⟩
 ·cases h
theorem Ag9 {d:Nat} {op:Op} {ρ:Operand→AV} {os:Nat→Option AO} {n:Nat} {o:AO} {x:AV} (h:Jo op=true) (he:eff P d op ρ os=some (.app n o x)):∃ k es,os n=some (.arr k es):=by
 unfold Jo at h
 split at h
 ·rename_i as ts
  simp only [eff] at he
  split at he
  ·split at he
   ·split at he
    ·split at he
     ·split at he
      ·split at he
       ·cases he
       ·cases he
      ·split at he
       ·rename_i hn
        split at he
        ·cases he; exact ⟨_,_,hn⟩
        ·cases he
       ·cases he
      ·cases he
     ·cases he
    ·cases he
   ·cases he
  ·cases he
 ·cases h
theorem Mc {s:St} {dst:Option Nat} {x:AV} {i:Nat} (h:dst≠some i):(s.put dst x).t i=s.t i:=by
 cases dst with
 | none=>rfl
 | some d=>exact Ar (fun e=>h (by rw [e]))
theorem Q5 {K:St→Prop}:∀ {l:List Oper} {s:St},s.closed→(∀ o ∈ l,Aah r.v o=true)→EL P r N all l s K→∃ s',K s'∧∀ t,(∀ o ∈ l,o.dst≠some t)→s'.t t=s.t t∨s'.t t=.undef
 | [],s,_,_,h=>⟨s,h,fun _ _=>.inl rfl⟩
 | o :: l,s,hc,ht,h=>by
  have h0:=ht o (by simp)
  have hl:∀ o ∈ l,Aah r.v o=true:=fun q hq=>ht q (by simp [hq])
  have step:∀ s1:St,s1.closed→EL P r N all l s1 K→(∀ t,o.dst≠some t→s1.t t=s.t t∨s1.t t=.undef)→∃ s',K s'∧∀ t,(∀ q ∈ o :: l,q.dst≠some t)→s'.t t=s.t t∨s'.t t=.undef:=by
   intro s1 hc1 h1 h2
   obtain ⟨s',hK,h3⟩:=Q5 hc1 hl h1
   refine ⟨s',hK,fun t htt=>?_⟩
   rcases h3 t (fun q hq=>htt q (by simp [hq])) with h4 | h4
   ·rw [h4]; exact h2 t (htt o (by simp))
   ·exact .inr h4
  simp only [Aah,Bool.or_eq_true,Bool.and_eq_true,Bool.not_eq_true',Option.isNone_iff_eq_none] at h0
  rcases h0 with (h0 | h0) | h0
  ·rw [E1 h0.1 h0.2 hc] at h
   obtain ⟨_,x,ob,h2,h3⟩:=h
   exact step _ (Kg h0.1 hc h2) h3 fun t htt=>.inl (Hl htt)
  ·obtain ⟨f1,f2,f3⟩:=Nh h0.1.1
   rw [Bi h0.1.2 f1 f2 f3] at h
   obtain ⟨_,e,s',he,hs',h3⟩:=h
   obtain ⟨n,ob,rfl,h5,_⟩:=Kh h0.1.1 hc he
   cases hs'
   refine step _ (Da (Js hc h5) (AV.lives_undef _)) h3 fun t htt=>.inl ?_
   rw [Mc htt]; rfl
  ·obtain ⟨f1,f2,f3⟩:=Gs h0.1
   rw [Bi h0.2 f1 f2 f3] at h
   obtain ⟨_,e,s',he,hs',h3⟩:=h
   rcases H3 h0.1 he with ⟨k,es,len,rfl⟩ | ⟨n,k,es,len,rfl⟩
   ·obtain ⟨d,hd,_,rfl⟩:=Dr hs'
    refine step _ (Dw hc (AO.lives_arr _ _ _) (fun m hm=>by rw [hd] at hm; exact Eh m hm)) h3 fun t htt=>.inl ?_
    rw [← hd,Mc htt]; rfl
   ·obtain ⟨d,hd,_,rfl⟩:=Fl hs'
    refine step _ (Dw (E6 hc n) (AO.lives_arr _ _ _) (fun m hm=>by rw [hd] at hm; exact Eh m hm)) h3 fun t htt=>?_
    rw [← hd,Mc htt]
    exact B8 n (s.t t)
def Jj (P:Program) (r:RB) (N:Nat) (all:List Oper) (D:(Nat→AV)→Prop) (i j:Oper) (l:List Oper):Prop:=
 ∀ s K,s.closed→(∀ s':St,K s'→D s'.t)→EL P r N all (i :: j :: l) s K→EL P r N all (j :: i :: l) s K
theorem Yj {D:(Nat→AV)→Prop} {i j:Oper} {l:List Oper} (h:Jq P r N all i j):Jj P r N all D i j l:=fun s K hc _ hE=>h l s K hc hE
theorem Aft {D:(Nat→AV)→Prop} {j i:Oper} {l:List Oper} {t:TypeId} {xt:Nat} {v:Operand} (hj:qop j.op=true) (hjv:isV r.v j.op=false) (hi:i.op=.store t (.tmp xt) v) (hig:i.guard=none) (hid:i.dst=none) (hap:j.apart all.toArray i=true)
  (htame:∀ o ∈ l,Aah r.v o=true) (hfree:∀ q ∈ (Cf.sto (j.looksAt all.toArray) xt).temps,j.dst≠some q∧∀ o ∈ l,o.dst≠some q) (hD:∀ f,D f→Cf.ok f (.sto (j.looksAt all.toArray) xt)=true):Jj P r N all D j i l:=by
 intro s K hc hK hE
 have hsto:Qk i.op=true:=by rw [hi]; rfl
 obtain ⟨f1,f2,f3⟩:=Nh hsto
 obtain ⟨a1,a2,a3⟩:=Oper.apart_spec hap
 rw [E1 hj hjv hc] at hE
 obtain ⟨h1,x,ob,h2,h3⟩:=hE
 have hc1:=Kg hj hc h2
 rw [Bi hig f1 f2 f3] at h3
 obtain ⟨h4,e,s2,he,hs2,h5⟩:=h3
 rw [hi] at he
 obtain ⟨n,o,rfl,hname,hlive,hloc⟩:=Asf he
 have hs2':s2=(Cx r.b j.dst x ob s).setO n o:=by rw [hid] at hs2; cases hs2; rfl
 have hc2:s2.closed:=by
  rw [hs2']
  obtain ⟨n',o',e1,e2,_⟩:=Kh (P:=P) (d:=r.b+i.dst.getD 0) (op:=i.op) hsto hc1 (by rw [hi]; exact he)
  cases e1
  exact Js hc1 e2
 obtain ⟨s',hKs,hfin⟩:=Q5 hc2 htame h5
 have hok:=hD _ (hK _ hKs)
 have hval:∀ q ∈ (Cf.sto (j.looksAt all.toArray) xt).temps,(s'.t q).known=true→s'.t q=s.t q:=fun q hq hkn=>by
  have h6:=(hfree q hq)
  rcases hfin q h6.2 with h7 | h7
  ·rw [h7,hs2']
   exact Hl h6.1
  ·rw [h7] at hkn; cases hkn
 simp only [Cf.ok] at hok
 split at hok
 ·rename_i n' hn'
  have hkx:(s'.t xt).known=true:=(Qn hn').1
  have hxs:=hval xt (by simp [Cf.temps]) hkx
  have hx1:(Cx r.b j.dst x ob s).t xt=s.t xt:=Hl (hfree xt (by simp [Cf.temps])).1
  have hev:ev (Cx r.b j.dst x ob s).t (.tmp xt)=s.t xt:=hx1
  rw [hev,← hxs,hn'] at hname
  cases hname
  rw [List.all_eq_true] at hok
  have hlook:∀ q ∈ j.looksAt all.toArray,(s.t q).clean n=true:=fun q hq=>by
   have h6:=hok q hq
   simp only [Bool.and_eq_true] at h6
   rw [← hval q (by simp [Cf.temps,hq]) h6.1]
   exact h6.2
  have hns:(s.o n).isSome=true:=hc.1 xt n (by
   rw [← hxs]
   exact (Qn hn').2)
  have hne:∀ d,j.dst=some d→ob≠none→r.b+d≠n:=fun d hd hob=>by
   cases hob2:ob with
   | none=>exact absurd hob2 hob
   | some a=>
    rw [hob2] at h2
    obtain ⟨d',hd',hnone⟩:=Zm h2
    rw [hd] at hd'; cases hd'
    intro e; rw [e] at hnone; rw [hnone] at hns; cases hns
  have ho1:(Cx r.b j.dst x ob s).o n=s.o n:=Nr (by
   by_cases hob:ob=none
   ·exact .inr hob
   ·exact .inl fun d hd=>hne d hd hob)
  have heff:eff P (r.b+i.dst.getD 0) i.op (ev s.t) s.o=some (.upd n o):=by
   rw [hi]
   have h7:=hloc (r.b+i.dst.getD 0) s.o ho1.symm
   rw [← h7]
   exact (Rz (P:=P) (d:=r.b+i.dst.getD 0) (os:=s.o) (op:=.store t (.tmp xt) v) rfl fun y hy=>by
    have hyi:y ∈ i.op.operands.toList:=by rw [hi]; exact hy
    cases y with
    | tmp q=>exact (Hl (fun e=>a1 q e (Dh hyi rfl))).symm
    | _=>rfl)
  have hGS:GS P r.b all j (s.setO n o) x ob:=Mv (s:=s) (s':=s.setO n o) hj ⟨fun q hq=>rfl,fun q hq m hm=>Ar (fun e=>by subst e; rw [hlook q hq] at hm; cases hm),fun d hd hnone=>by
   show upd s.o n (some o) (r.b+d)=none
   rw [Ar (fun e=>by rw [← e] at hns; rw [hnone] at hns; cases hns)]
   exact hnone⟩ h2
  rw [Bi hig f1 f2 f3]
  refine ⟨h4,_,s.setO n o,heff,by rw [hid]; rfl,?_⟩
  have hc':(s.setO n o).closed:=by
   obtain ⟨n',o',e1,e2,_⟩:=Kh (P:=P) (d:=r.b+i.dst.getD 0) (op:=i.op) hsto hc heff
   cases e1
   exact Js hc e2
  rw [E1 hj hjv hc']
  refine ⟨h1,x,ob,hGS,?_⟩
  have e9:Cx r.b j.dst x ob (s.setO n o)=s2:=by
   rw [hs2']
   cases hd:j.dst with
   | none=>cases ob <;> rfl
   | some d=>
    cases hob:ob with
    | none=>rfl
    | some a=>
     have hne':=hne d hd (by rw [hob]; simp)
     simp only [Cx,St.put,St.setO]
     congr 1
     exact Dl (Ne.symm hne')
  rw [e9]; exact h5
 ·cases hok
theorem Zn {D:(Nat→AV)→Prop} {j i:Oper} {l:List Oper} {t:TypeId} {xt:Nat} (hj:j.op=.load t (.tmp xt)) (hjg:j.guard=none) (hag:(Ab P t).agg=some false) (hi:Jo i.op=true) (hig:i.guard=none) (hap:j.apart all.toArray i=true)
  (htame:∀ o ∈ l,Aah r.v o=true) (hfree:∀ q ∈ [xt],j.dst≠some q∧i.dst≠some q∧∀ o ∈ l,o.dst≠some q) (hD:∀ f,D f→Cf.ok f (.app [xt])=true):Jj P r N all D j i l:=by
 intro s K hc hK hE
 obtain ⟨f1,f2,f3⟩:=Gs hi
 obtain ⟨a1,a2,a3⟩:=Oper.apart_spec hap
 have q1:Cc j.op=false:=by rw [hj]; rfl
 have q2:Dd j.op=false:=by rw [hj]; rfl
 have q3:isM j.op=false:=by rw [hj]; rfl
 rw [Bi hjg q1 q2 q3] at hE
 obtain ⟨h1,e,s1,he,hs1,h2⟩:=hE
 have hld:∀ (ρ:Operand→AV) os d,eff P d (.load t (.tmp xt)) ρ os=D6 (Ab P t).agg (Ab P t).sz os (ρ (.tmp xt)):=fun _ _ _=>rfl
 rw [hj,hld,hag] at he
 have hpure:∃ y,e=.pure y:=by
  unfold D6 at he
  simp only [] at he
  split at he
  ·split at he
   ·obtain ⟨y,_,rfl⟩:=Option.map_eq_some_iff.1 he; exact ⟨y,rfl⟩
   ·cases he
  ·split at he
   ·split at he
    ·obtain ⟨y,_,rfl⟩:=Option.map_eq_some_iff.1 he; exact ⟨y,rfl⟩
    ·cases he
   ·cases he
  ·obtain ⟨y,_,rfl⟩:=Option.map_eq_some_iff.1 he; exact ⟨y,rfl⟩
  ·cases he
 obtain ⟨y,rfl⟩:=hpure
 have hs1':s1=s.put j.dst y:=by cases hs1; rfl
 subst hs1'
 rw [Bi hig f1 f2 f3] at h2
 obtain ⟨h3,e2,s2,he2,hs2,h4⟩:=h2
 have ho:(s.put j.dst y).o=s.o:=by cases j.dst <;> rfl
 have he2':eff P (r.b+i.dst.getD 0) i.op (ev s.t) s.o=some e2:=by
  rw [← he2,ho]
  exact (Gp hi fun x hx=>Lv (fun d hd hxd=>a1 d hd (Dh hx hxd))).symm
 have hxf:=hfree xt (by simp)
 rw [Bi hig f1 f2 f3]
 rcases H3 hi he2' with ⟨k,es,len,rfl⟩ | ⟨n,k,es,len,rfl⟩
 ·obtain ⟨d,hd,hn,rfl⟩:=Dr hs2
  rw [ho] at hn
  refine ⟨h3,_,(s.setO (r.b+d) (.arr k es)).put (some d) (.own (r.b+i.dst.getD 0) len),he2',by rw [hd]; simp [Eff.apply,hn],?_⟩
  rw [Bi hjg q1 q2 q3]
  refine ⟨h1,.pure y,_,?_,rfl,?_⟩
  ·rw [hj,hld,hag]
   have e1:ev ((s.setO (r.b+d) (.arr k es)).put (some d) (.own (r.b+i.dst.getD 0) len)).t (.tmp xt)=ev s.t (.tmp xt):=by
    show ((s.setO (r.b+d) (.arr k es)).put (some d) _).t xt=s.t xt
    rw [Mc (by rw [← hd]; exact hxf.2.1)]; rfl
   rw [e1,← he]
   refine Mq fun m hm=>?_
   show upd s.o (r.b+d) _ m=s.o m
   refine Ar (fun em=>?_)
   have h6:=hc.1 xt m hm
   rw [em,hn] at h6; cases h6
  ·have e9:((s.setO (r.b+d) (.arr k es)).put (some d) (.own (r.b+i.dst.getD 0) len)).put j.dst y=((s.put j.dst y).setO (r.b+d) (.arr k es)).put (some d) (.own (r.b+i.dst.getD 0) len):=by
    cases hjd:j.dst with
    | none=>rfl
    | some dj=>
     have hne:dj≠d:=fun e=>a2 dj hjd (by rw [hd,e])
     simp only [St.put,St.setO]
     congr 1
     exact Dl (Ne.symm hne)
   rw [e9]; exact h4
 ·obtain ⟨d,hd,hn,rfl⟩:=Fl hs2
  have hp:((s.put j.dst y).purge n).o=(s.purge n).o:=by cases j.dst <;> rfl
  rw [hp] at hn
  have hc2:((((s.put j.dst y).purge n).setO (r.b+d) (.arr k es)).put (some d) (.own (r.b+i.dst.getD 0) len)).closed:=by
   have hcy:(s.put j.dst y).closed:=by
    have hgd:=R0 (s:=s) (d:=r.b+j.dst.getD 0) (ag:=some false) (sz:=(Ab P t).sz) (x:=ev s.t (.tmp xt)) hc
    rw [he] at hgd
    exact Da hc (hgd _ rfl)
   exact Dw (E6 hcy n) (AO.lives_arr _ _ _) (fun m hm=>by rw [hd] at hm; exact Eh m hm)
  obtain ⟨s',hKs,hfin⟩:=Q5 hc2 htame h4
  have hok:=hD _ (hK _ hKs)
  simp only [Cf.ok,List.all_cons,List.all_nil,Bool.and_true] at hok
  have hclean:(s.t xt).purge n=s.t xt:=by
   rcases hfin xt hxf.2.2 with h7 | h7
   ·rw [Mc (by rw [← hd]; exact hxf.2.1)] at h7
    have h8:((s.put j.dst y).purge n).t xt=(s.t xt).purge n:=by
     show ((s.put j.dst y).t xt).purge n=_
     rw [Mc hxf.1]
    rw [show (((s.put j.dst y).purge n).setO (r.b+d) (.arr k es)).t xt=((s.put j.dst y).purge n).t xt from rfl,h8] at h7
    rcases B8 n (s.t xt) with h9 | h9
    ·exact h9
    ·rw [h7,h9] at hok; cases hok
   ·rw [h7] at hok; cases hok
  have hcl:(s.t xt).clean n=true:=by rw [← hclean]; exact AV.clean_purge n _
  refine ⟨h3,_,((s.purge n).setO (r.b+d) (.arr k es)).put (some d) (.own (r.b+i.dst.getD 0) len),he2',by rw [hd]; simp [Eff.apply,hn],?_⟩
  rw [Bi hjg q1 q2 q3]
  have e1:ev (((s.purge n).setO (r.b+d) (.arr k es)).put (some d) (.own (r.b+i.dst.getD 0) len)).t (.tmp xt)=s.t xt:=by
   show (((s.purge n).setO (r.b+d) (.arr k es)).put (some d) _).t xt=s.t xt
   rw [Mc (by rw [← hd]; exact hxf.2.1)]
   exact hclean
  have hld2:D6 (some false) (Ab P t).sz (((s.purge n).setO (r.b+d) (.arr k es)).put (some d) (.own (r.b+i.dst.getD 0) len)).o (s.t xt)=some (.pure (y.purge n)):=by
   have he':D6 (some false) (Ab P t).sz s.o (s.t xt)=some (.pure y):=he
   have hoo:∀ m,m≠n→(s.o m).isSome=true→(((s.purge n).setO (r.b+d) (.arr k es)).put (some d) (.own (r.b+i.dst.getD 0) len)).o m=(s.o m).map (AO.purge n):=fun m hm hsm=>by
    show upd (s.purge n).o (r.b+d) _ m=_
    have hmd:m≠r.b+d:=fun em=>by
     have h6:(s.purge n).o m=(s.o m).map (AO.purge n):=St.purge_o_other s hm
     rw [em] at h6 hsm
     rw [hn] at h6
     rw [← Option.isSome_map (f:=AO.purge n),← h6] at hsm; cases hsm
    rw [Ar hmd]
    exact St.purge_o_other s hm
   cases hx:s.t xt with
   | ptr m off=>
    rw [hx] at he' hcl
    rw [Ej] at he' ⊢
    have hmn:m≠n:=by simpa [AV.clean] using hcl
    cases hom:s.o m with
    | none=>rw [hom] at he'; cases he'
    | some ao=>
     rw [hoo m hmn (by rw [hom]; rfl),hom]
     rw [hom] at he'
     cases ao with
     | cells cs=>
      simp only [U4,Option.map_some,AO.purge,Ai,Bool.false_eq_true,if_false] at he' ⊢
      rw [← List.map_drop]
      cases hdr:cs.drop off with
      | nil=>rw [hdr] at he'; cases he'
      | cons z zs=>rw [hdr] at he'; simp at he'; subst he'; rfl
     | _=>cases he'
   | eptr m k2 i2 off=>
    rw [hx] at he' hcl
    rw [Er] at he' ⊢
    have hmn:m≠n:=by simpa [AV.clean] using hcl
    cases hom:s.o m with
    | none=>rw [hom] at he'; cases he'
    | some ao=>
     rw [hoo m hmn (by rw [hom]; rfl),hom]
     rw [hom] at he'
     cases ao with
     | arr k3 es3=>
      simp only [Tx,Option.map_some,AO.purge] at he' ⊢
      split at he'
      ·rename_i hcc
       rw [if_pos hcc]
       simp only [Ai,Bool.false_eq_true,if_false] at he' ⊢
       cases hdr:((es3.getD i2 []).drop off) with
       | nil=>rw [hdr] at he'; cases he'
       | cons z zs=>rw [hdr] at he'; simp at he'; subst he'; rfl
      ·cases he'
     | _=>cases he'
   | p z=>
    rw [hx] at he'
    cases z with
    | ro cs=>
     rw [Jc] at he' ⊢
     simp only [Ai,Bool.false_eq_true,if_false] at he' ⊢
     cases cs with
     | nil=>cases he'
     | cons z zs=>simp at he'; subst he'; rfl
    | _=>cases he'
   | _=>rw [hx] at he'; cases he'
  refine ⟨h1,.pure (y.purge n),_,by rw [hj,hld,hag,e1]; exact hld2,rfl,?_⟩
  have e9:(((s.purge n).setO (r.b+d) (.arr k es)).put (some d) (.own (r.b+i.dst.getD 0) len)).put j.dst (y.purge n)=(((s.put j.dst y).purge n).setO (r.b+d) (.arr k es)).put (some d) (.own (r.b+i.dst.getD 0) len):=by
   cases hjd:j.dst with
   | none=>rfl
   | some dj=>
    have hne:dj≠d:=fun e=>a2 dj hjd (by rw [hd,e])
    simp only [St.put,St.setO,St.purge]
    congr 1
    rw [Dl (Ne.symm hne)]
    congr 1
    funext q
    unfold upd
    by_cases hq:q=dj
    ·subst hq; simp
    ·simp [hq]
  rw [e9]; exact h4
theorem L3 {n:Nat}:∀ {l:List AV},AV.clean.cleanL n l=true→l.map (AV.purge n)=l
 | [],_=>rfl
 | x :: l,h=>by
  have h':x.clean n=true∧AV.clean.cleanL n l=true:=by simpa [AV.clean.cleanL] using h
  rw [List.map_cons,L3 h'.2]
  congr 1
  unfold AV.purge
  rw [if_pos h'.1]
theorem Aaw {D:(Nat→AV)→Prop} {j i:Oper} {l:List Oper} {t:TypeId} {xt:Nat} (hj:j.op=.load t (.tmp xt)) (hjg:j.guard=none) (hag:(Ab P t).agg=some true) {dj:Nat} (hdj:j.dst=some dj) (hfd:i.dst≠some dj∧∀ o ∈ l,o.dst≠some dj) (hi:Jo i.op=true) (hig:i.guard=none) (hap:j.apart all.toArray i=true)
  (htame:∀ o ∈ l,Aah r.v o=true) (hfree:∀ q ∈ [xt],j.dst≠some q∧i.dst≠some q∧∀ o ∈ l,o.dst≠some q) (hD:∀ f,D f→Cf.ok f (.app [xt,dj])=true):Jj P r N all D j i l:=by
 intro s K hc hK hE
 obtain ⟨f1,f2,f3⟩:=Gs hi
 obtain ⟨a1,a2,a3⟩:=Oper.apart_spec hap
 have q1:Cc j.op=false:=by rw [hj]; rfl
 have q2:Dd j.op=false:=by rw [hj]; rfl
 have q3:isM j.op=false:=by rw [hj]; rfl
 rw [Bi hjg q1 q2 q3] at hE
 obtain ⟨h1,e,s1,he,hs1,h2⟩:=hE
 have hld:∀ (ρ:Operand→AV) os d,eff P d (.load t (.tmp xt)) ρ os=D6 (Ab P t).agg (Ab P t).sz os (ρ (.tmp xt)):=fun _ _ _=>rfl
 rw [hj,hld,hag] at he
 have hpure:∃ y,e=.pure y:=by
  unfold D6 at he
  simp only [] at he
  split at he
  ·split at he
   ·obtain ⟨y,_,rfl⟩:=Option.map_eq_some_iff.1 he; exact ⟨y,rfl⟩
   ·cases he
  ·split at he
   ·split at he
    ·obtain ⟨y,_,rfl⟩:=Option.map_eq_some_iff.1 he; exact ⟨y,rfl⟩
    ·cases he
   ·cases he
  ·obtain ⟨y,_,rfl⟩:=Option.map_eq_some_iff.1 he; exact ⟨y,rfl⟩
  ·cases he
 obtain ⟨y,rfl⟩:=hpure
 have hs1':s1=s.put j.dst y:=by cases hs1; rfl
 subst hs1'
 rw [Bi hig f1 f2 f3] at h2
 obtain ⟨h3,e2,s2,he2,hs2,h4⟩:=h2
 have ho:(s.put j.dst y).o=s.o:=by cases j.dst <;> rfl
 have he2':eff P (r.b+i.dst.getD 0) i.op (ev s.t) s.o=some e2:=by
  rw [← he2,ho]
  exact (Gp hi fun x hx=>Lv (fun d hd hxd=>a1 d hd (Dh hx hxd))).symm
 have hxf:=hfree xt (by simp)
 rw [Bi hig f1 f2 f3]
 rcases H3 hi he2' with ⟨k,es,len,rfl⟩ | ⟨n,k,es,len,rfl⟩
 ·obtain ⟨d,hd,hn,rfl⟩:=Dr hs2
  rw [ho] at hn
  refine ⟨h3,_,(s.setO (r.b+d) (.arr k es)).put (some d) (.own (r.b+i.dst.getD 0) len),he2',by rw [hd]; simp [Eff.apply,hn],?_⟩
  rw [Bi hjg q1 q2 q3]
  refine ⟨h1,.pure y,_,?_,rfl,?_⟩
  ·rw [hj,hld,hag]
   have e1:ev ((s.setO (r.b+d) (.arr k es)).put (some d) (.own (r.b+i.dst.getD 0) len)).t (.tmp xt)=ev s.t (.tmp xt):=by
    show ((s.setO (r.b+d) (.arr k es)).put (some d) _).t xt=s.t xt
    rw [Mc (by rw [← hd]; exact hxf.2.1)]; rfl
   rw [e1,← he]
   refine Mq fun m hm=>?_
   show upd s.o (r.b+d) _ m=s.o m
   refine Ar (fun em=>?_)
   have h6:=hc.1 xt m hm
   rw [em,hn] at h6; cases h6
  ·have e9:((s.setO (r.b+d) (.arr k es)).put (some d) (.own (r.b+i.dst.getD 0) len)).put j.dst y=((s.put j.dst y).setO (r.b+d) (.arr k es)).put (some d) (.own (r.b+i.dst.getD 0) len):=by
    cases hjd:j.dst with
    | none=>rfl
    | some dj=>
     have hne:dj≠d:=fun e=>a2 dj hjd (by rw [hd,e])
     simp only [St.put,St.setO]
     congr 1
     exact Dl (Ne.symm hne)
   rw [e9]; exact h4
 ·obtain ⟨d,hd,hn,rfl⟩:=Fl hs2
  have hp:((s.put j.dst y).purge n).o=(s.purge n).o:=by cases j.dst <;> rfl
  rw [hp] at hn
  have hc2:((((s.put j.dst y).purge n).setO (r.b+d) (.arr k es)).put (some d) (.own (r.b+i.dst.getD 0) len)).closed:=by
   have hcy:(s.put j.dst y).closed:=by
    have hgd:=R0 (s:=s) (d:=r.b+j.dst.getD 0) (ag:=some true) (sz:=(Ab P t).sz) (x:=ev s.t (.tmp xt)) hc
    rw [he] at hgd
    exact Da hc (hgd _ rfl)
   exact Dw (E6 hcy n) (AO.lives_arr _ _ _) (fun m hm=>by rw [hd] at hm; exact Eh m hm)
  obtain ⟨s',hKs,hfin⟩:=Q5 hc2 htame h4
  have hok:=hD _ (hK _ hKs)
  simp only [Cf.ok,List.all_cons,List.all_nil,Bool.and_true,Bool.and_eq_true] at hok
  have hyc:y.clean n=true:=by
   rcases hfin dj hfd.2 with h7 | h7
   ·rw [Mc (by rw [← hd]; exact hfd.1)] at h7
    have h8:((s.put j.dst y).purge n).t dj=y.purge n:=by
     show ((s.put j.dst y).t dj).purge n=_
     rw [hdj]; simp [St.put]
    rw [show (((s.put j.dst y).purge n).setO (r.b+d) (.arr k es)).t dj=((s.put j.dst y).purge n).t dj from rfl,h8] at h7
    rcases B8 n y with h9 | h9
    ·rw [← h9]; exact AV.clean_purge n _
    ·rw [h7,h9] at hok; simp [AV.known] at hok
   ·rw [h7] at hok; simp [AV.known] at hok
  have hyp:y.purge n=y:=by unfold AV.purge; rw [if_pos hyc]
  have hclean:(s.t xt).purge n=s.t xt:=by
   rcases hfin xt hxf.2.2 with h7 | h7
   ·rw [Mc (by rw [← hd]; exact hxf.2.1)] at h7
    have h8:((s.put j.dst y).purge n).t xt=(s.t xt).purge n:=by
     show ((s.put j.dst y).t xt).purge n=_
     rw [Mc hxf.1]
    rw [show (((s.put j.dst y).purge n).setO (r.b+d) (.arr k es)).t xt=((s.put j.dst y).purge n).t xt from rfl,h8] at h7
    rcases B8 n (s.t xt) with h9 | h9
    ·exact h9
    ·rw [h7,h9] at hok; simp [AV.known] at hok
   ·rw [h7] at hok; simp [AV.known] at hok
  have hcl:(s.t xt).clean n=true:=by rw [← hclean]; exact AV.clean_purge n _
  refine ⟨h3,_,((s.purge n).setO (r.b+d) (.arr k es)).put (some d) (.own (r.b+i.dst.getD 0) len),he2',by rw [hd]; simp [Eff.apply,hn],?_⟩
  rw [Bi hjg q1 q2 q3]
  have e1:ev (((s.purge n).setO (r.b+d) (.arr k es)).put (some d) (.own (r.b+i.dst.getD 0) len)).t (.tmp xt)=s.t xt:=by
   show (((s.purge n).setO (r.b+d) (.arr k es)).put (some d) _).t xt=s.t xt
   rw [Mc (by rw [← hd]; exact hxf.2.1)]
   exact hclean
  have hld2:D6 (some true) (Ab P t).sz (((s.purge n).setO (r.b+d) (.arr k es)).put (some d) (.own (r.b+i.dst.getD 0) len)).o (s.t xt)=some (.pure (y.purge n)):=by
   have he':D6 (some true) (Ab P t).sz s.o (s.t xt)=some (.pure y):=he
   have hoo:∀ m,m≠n→(s.o m).isSome=true→(((s.purge n).setO (r.b+d) (.arr k es)).put (some d) (.own (r.b+i.dst.getD 0) len)).o m=(s.o m).map (AO.purge n):=fun m hm hsm=>by
    show upd (s.purge n).o (r.b+d) _ m=_
    have hmd:m≠r.b+d:=fun em=>by
     have h6:(s.purge n).o m=(s.o m).map (AO.purge n):=St.purge_o_other s hm
     rw [em] at h6 hsm
     rw [hn] at h6
     rw [← Option.isSome_map (f:=AO.purge n),← h6] at hsm; cases hsm
    rw [Ar hmd]
    exact St.purge_o_other s hm
   cases hx:s.t xt with
   | ptr m off=>
    rw [hx] at he' hcl
    rw [Ej] at he' ⊢
    have hmn:m≠n:=by simpa [AV.clean] using hcl
    cases hom:s.o m with
    | none=>rw [hom] at he'; cases he'
    | some ao=>
     rw [hoo m hmn (by rw [hom]; rfl),hom]
     rw [hom] at he'
     cases ao with
     | cells cs=>
      simp only [U4,Option.map_some,AO.purge,Ai,if_true] at he' ⊢
      split at he'
      ·rename_i hle
       have e5:AV.agg ((cs.drop off).take (Ab P t).sz)=y:=by simpa using he'
       have hcy':AV.clean.cleanL n ((cs.drop off).take (Ab P t).sz)=true:=by rw [← e5] at hyc; exact hyc
       rw [← List.map_drop,if_pos (by simpa using hle),← List.map_take,L3 hcy',e5,hyp]; rfl
      ·cases he'
     | _=>cases he'
   | eptr m k2 i2 off=>
    rw [hx] at he' hcl
    rw [Er] at he' ⊢
    have hmn:m≠n:=by simpa [AV.clean] using hcl
    cases hom:s.o m with
    | none=>rw [hom] at he'; cases he'
    | some ao=>
     rw [hoo m hmn (by rw [hom]; rfl),hom]
     rw [hom] at he'
     cases ao with
     | arr k3 es3=>
      simp only [Tx,Option.map_some,AO.purge] at he' ⊢
      split at he'
      ·rename_i hcc
       rw [if_pos hcc]
       rw [he',hyp]
      ·cases he'
     | _=>cases he'
   | p z=>
    rw [hx] at he'
    cases z with
    | ro cs=>
     rw [Jc] at he' ⊢
     rw [he',hyp]
    | _=>cases he'
   | _=>rw [hx] at he'; cases he'
  refine ⟨h1,.pure (y.purge n),_,by rw [hj,hld,hag,e1]; exact hld2,rfl,?_⟩
  have e9:(((s.purge n).setO (r.b+d) (.arr k es)).put (some d) (.own (r.b+i.dst.getD 0) len)).put j.dst (y.purge n)=(((s.put j.dst y).purge n).setO (r.b+d) (.arr k es)).put (some d) (.own (r.b+i.dst.getD 0) len):=by
   cases hjd:j.dst with
   | none=>rfl
   | some dj=>
    have hne:dj≠d:=fun e=>a2 dj hjd (by rw [hd,e])
    simp only [St.put,St.setO,St.purge]
    congr 1
    rw [Dl (Ne.symm hne)]
    congr 1
    funext q
    unfold upd
    by_cases hq:q=dj
    ·subst hq; simp
    ·simp [hq]
  rw [e9]; exact h4
end
def rop:Op→Bool
 | .nilCheck _ | .fieldAddr .. | .load ..=>true
 | op=>sil op
def Bdb (v q:List Nat):Op→Bool
 | .call ⟨.value (.func f),_,_⟩=>v.contains f&&q.contains f
 | _=>false
section
variable {P:Program} {r:RB} {N:Nat} {all:List Oper}
theorem Apg {op:Op} (h:rop op=true):qop op=true∧Cc op=false∧Dd op=false∧isM op=false:=by
 cases op <;> first | (simp [rop,sil] at h; done) | exact ⟨rfl,rfl,rfl,rfl⟩
theorem Anw {d:Nat} {op:Op} {ρ:Operand→AV} {os:Nat→Option AO} {e:Eff} (h:rop op=true) (he:eff P d op ρ os=some e):∃ y,e=.pure y:=by
 by_cases hs:sil op=true
 ·exact Ua hs he
 ·cases op <;> simp only [rop] at h <;> first | (exact absurd h hs) | skip
  ·rename_i t x
   have hld:eff P d (.load t x) ρ os=D6 (Ab P t).agg (Ab P t).sz os (ρ x):=rfl
   rw [hld] at he
   unfold D6 at he
   split at he
   ·cases he
   ·split at he
    ·split at he
     ·obtain ⟨y,_,rfl⟩:=Option.map_eq_some_iff.1 he; exact ⟨y,rfl⟩
     ·cases he
    ·split at he
     ·split at he
      ·obtain ⟨y,_,rfl⟩:=Option.map_eq_some_iff.1 he; exact ⟨y,rfl⟩
      ·cases he
     ·cases he
    ·obtain ⟨y,_,rfl⟩:=Option.map_eq_some_iff.1 he; exact ⟨y,rfl⟩
    ·cases he
  ·simp only [eff] at he
   split at he <;> first | (cases he; done) | (cases he; exact ⟨_,rfl⟩)
  ·simp only [eff] at he
   split at he
   ·split at he
    ·split at he
     ·cases he
     ·split at he <;> first | (cases he; done) | (cases he; exact ⟨_,rfl⟩)
    ·cases he
   ·cases he
theorem Bbw {o:Oper} {rest:List Oper} {s:St} {K:St→Prop} {f:FuncId} {as:Array Operand} {ts:Array TypeId} (hg:o.guard=none) (hop:o.op=.call ⟨.value (.func f),as,ts⟩) (hv:r.v.contains f=true) (hq:r.q.contains f=true) :
  EL P r N all (o :: rest) s K=EVq P r N (.fn (.func f) [] []) (as.toList.map (ev s.t)) o.dst s (fun s'=>EL P r N all rest s' K):=by
 obtain ⟨dst,op,ty,pos,after,g⟩:=o
 simp only at hg hop
 subst hg hop
 rw [Bas,Agh,hv,hq]
 rfl
theorem Ak4 {j i:Oper} {f:FuncId} {as:Array Operand} {ts:Array TypeId} (hj:rop j.op=true) (hjg:j.guard=none) (hig:i.guard=none) (hop:i.op=.call ⟨.value (.func f),as,ts⟩) (hv:r.v.contains f=true) (hq:r.q.contains f=true) (hap:j.apart all.toArray i=true):Jq P r N all j i:=by
 intro l s K hc hE
 obtain ⟨q0,q1,q2,q3⟩:=Apg hj
 obtain ⟨a1,a2,a3⟩:=Oper.apart_spec hap
 rw [Bi hjg q1 q2 q3] at hE
 obtain ⟨h1,e,s1,he,hs1,h2⟩:=hE
 obtain ⟨y,rfl⟩:=Anw hj he
 have hs1':s1=s.put j.dst y:=by cases hs1; rfl
 subst hs1'
 rw [Bbw hig hop hv hq] at h2 ⊢
 obtain ⟨h3,bd,res,h4,h5,h6,h7,h8⟩:=h2
 have ho:(s.put j.dst y).o=s.o:=by cases j.dst <;> rfl
 have hargs:as.toList.map (ev (s.put j.dst y).t)=as.toList.map (ev s.t):=List.map_congr_left fun x hx=>Lv (fun d hd hxd=>a1 d hd (Dh (o:=i) (by rw [hop]; simp [Op.operands,Call.operands]; right; simpa using hx) hxd))
 rw [ho,hargs] at h4
 rw [ho] at h5
 refine ⟨h3,bd,res,h4,h5,h6,h7,?_⟩
 show EL P r N all (j :: l) (s.put i.dst res) K
 rw [Bi hjg q1 q2 q3]
 refine ⟨h1,.pure y,_,?_,rfl,?_⟩
 ·rw [← he]
  have ho2:(s.put i.dst res).o=s.o:=by cases i.dst <;> rfl
  rw [ho2]
  exact Kw q0 q1 ⟨fun x hx=>Lv (fun d hd hxd=>a3 d hd (Dh hx hxd)),fun _ _ _ _=>rfl⟩
 ·have e9:(s.put i.dst res).put j.dst y=(s.put j.dst y).put i.dst res:=by
   cases hjd:j.dst with
   | none=>rfl
   | some dj=>cases hid:i.dst with
    | none=>rfl
    | some di=>
     have hne:dj≠di:=fun e=>a2 dj hjd (by rw [hid,e])
     simp only [St.put]
     congr 1
     exact Dl (Ne.symm hne)
  rw [e9]; exact h8
theorem Aac {D:(Nat→AV)→Prop} {oi:Oper} {post:List Oper} {K:St→Prop} (hK:∀ s':St,K s'→D s'.t):∀ {pre:List Oper} {s:St},s.closed→(∀ p1 oj p2,pre=p1++oj :: p2→H6 P r N all oj∧Jj P r N all D oj oi (p2++post)) →
  EL P r N all (pre++oi :: post) s K→EL P r N all (oi :: (pre++post)) s K
 | [],_,_,_,h=>h
 | oj :: pre,s,hc,hp,h=>by
  have hj:=hp [] oj pre rfl
  exact hj.2 s K hc hK (hj.1 _ _ s K hc (fun s1 hc1 h1=>Aac hK hc1 (fun p1 o2 p2 e=>hp (oj :: p1) o2 p2 (by rw [e]; rfl)) h1) h)
end
section
variable {P:Program} {r:RB} {N:Nat} {ops:List Oper}
theorem Ed {ops:List Oper}:∀ {pre:List Nat} {p1:List Oper} {oj:Oper} {p2:List Oper},pre.filterMap (ops[·]?)=p1++oj :: p2→∃ l1 j l2,pre=l1++j :: l2∧ops[j]?=some oj∧l2.filterMap (ops[·]?)=p2
 | [],p1,oj,p2,h=>by simp at h
 | k :: pre,p1,oj,p2,h=>by
  rw [List.filterMap_cons] at h
  cases hk:ops[k]? with
  | none=>
   rw [hk] at h
   obtain ⟨l1,j,l2,e1,e2,e3⟩:=Ed h
   exact ⟨k :: l1,j,l2,by rw [e1]; rfl,e2,e3⟩
  | some o=>
   rw [hk] at h
   cases p1 with
   | nil=>
    simp only [List.nil_append,List.cons.injEq] at h
    exact ⟨[],k,pre,rfl,by rw [hk,h.1],h.2⟩
   | cons x p1=>
    simp only [List.cons_append,List.cons.injEq] at h
    obtain ⟨l1,j,l2,e1,e2,e3⟩:=Ed h.2
    exact ⟨k :: l1,j,l2,by rw [e1]; rfl,e2,e3⟩
theorem Ai4 {D:(Nat→AV)→Prop} {b:Nat→Nat} (hb:Sk ops b)
  (hsw:∀ (i j:Nat) (oi oj:Oper) (rest:List Nat),j < i→ops[i]?=some oi→ops[j]?=some oj→(b i).testBit j=false→(∀ k ∈ rest,j < k∧k≠i∧(k < i→(b i).testBit k=false))→H6 P r N ops oj∧Jj P r N ops D oj oi (rest.filterMap (ops[·]?)))
  {K:St→Prop} (hK:∀ s':St,K s'→D s'.t) {Q:Exit→Act→World→Prop} :
  ∀ (fuel:Nat) (listed:Array Bool) (s:St) (B:Nat) (S:Nat→Prop) (θ:Nat→Loc) (M:Nat→Prop) (w:World) (a:Act),Aq N B S θ M w s a→listed.size=ops.length→Nw ops listed→(Br ops.length listed).length≤fuel →
   EL P r N ops ((Br ops.length listed).filterMap (ops[·]?)) s K→(∀ s' a' w',K s'→Fin r N B S θ M w a s' a' w'→Q .normal a' w')→wpAnyIn (Wd r.rd) 0 P .any ops.toArray Q fuel listed a w:=by
 intro fuel
 have hready:∀ {listed:Array Bool} {x:Nat},x ∈ Region.ready .any ops.toArray listed→x ∈ Br ops.length listed:=fun h=>((Cr rfl).1 h).1
 induction fuel with
 | zero=>
  intro listed s B S θ M w a hs hsz hcl hf hE hQ
  have hnil:Br ops.length listed=[]:=List.length_eq_zero_iff.1 (by omega)
  refine ⟨List.eq_nil_iff_forall_not_mem.2 fun x hx=>?_,?_⟩
  ·have:=hready hx
   rw [hnil] at this; cases this
  ·rw [hnil] at hE
   exact hQ s a w hE ⟨G4.refl hs,rfl⟩
 | succ fuel ih=>
  intro listed s B S θ M w a hs hsz hcl hf hE hQ
  refine ⟨fun hr=>?_,fun i hi=>?_⟩
  ·have hnil:Br ops.length listed=[]:=by
    cases hrem:Br ops.length listed with
    | nil=>rfl
    | cons x l=>
     exfalso
     have hx:x ∈ Br ops.length listed:=by rw [hrem]; simp
     have hsort:(Br ops.length listed).Pairwise (· < ·):=(List.pairwise_lt_range).filter _
     rw [hrem,List.pairwise_cons] at hsort
     obtain ⟨hxn,hxl⟩:=Cy.1 hx
     have:x ∈ Region.ready .any ops.toArray listed:=(Cr rfl).2 ⟨hx,ops[x],by simp [hxn],fun e he hbe=>by
      have hlt:=hb.lt x ops[x] (by simp [hxn]) e he hbe
      cases hl:listed.getD e.on false with
      | true=>rfl
      | false=>
       exfalso
       have hen:e.on < ops.length:=Nat.lt_trans hlt hxn
       have:e.on ∈ Br ops.length listed:=Cy.2 ⟨hen,by
        rw [Array.getD_eq_getD_getElem?] at hl ⊢
        have hsz':e.on < listed.size:=by omega
        simp only [Array.getElem?_eq_getElem hsz',Option.getD_some] at hl ⊢
        exact hl⟩
       rw [hrem] at this
       rcases List.mem_cons.1 this with h | h
       ·omega
       ·have:=hsort.1 _ h; omega⟩
     rw [hr] at this; cases this
   rw [hnil] at hE
   exact hQ s a w hE ⟨G4.refl hs,rfl⟩
  ·obtain ⟨hrem,o,ho,hafter⟩:=(Cr rfl).1 hi
   obtain ⟨pre,post,he,hpre,hset⟩:=Jh hsz hrem
   have hsort:(pre++i :: post).Pairwise (· < ·):=by rw [← he]; exact (List.pairwise_lt_range).filter _
   have hnl:∀ k ∈ pre++i :: post,listed.getD k true=false:=fun k hk=>(Cy.1 (show k ∈ Br ops.length listed by rw [he]; exact hk)).2
   have hfree:∀ k ∈ pre++post,k < i→(b i).testBit k=false:=fun k hk hki=>by
    cases ht:(b i).testBit k with
    | false=>rfl
    | true=>
     have h1:=F5 hb hcl i o ho hafter hki ht
     have h2:=hnl k (by
      rcases List.mem_append.1 hk with h | h
      ·simp [h]
      ·simp [h])
     rw [Qs h2] at h1; cases h1
   rw [he,List.filterMap_append,List.filterMap_cons] at hE
   simp only [ho] at hE
   have hE':=Aac hK hs.cl (fun p1 oj p2 hp=>by
    obtain ⟨l1,j,l2,e1,e2,e3⟩:=Ed hp
    have hjp:j ∈ pre:=by rw [e1]; simp
    have:=hsw i j o oj (l2++post) (hpre j hjp) ho e2 (hfree j (by simp [hjp]) (hpre j hjp)) (fun k hk=>by
     rw [e1,List.append_assoc,List.pairwise_append] at hsort
     have h3:=(List.pairwise_cons.1 hsort.2.1).1
     have hk':k ∈ l2++i :: post:=by
      rcases List.mem_append.1 hk with h | h
      ·simp [h]
      ·simp [h]
     have h4:=(List.pairwise_cons.1 hsort.2.1).2
     refine ⟨h3 k hk',fun e=>?_,hfree k (by
      rcases List.mem_append.1 hk with h | h
      ·rw [e1]; simp [h]
      ·simp [h])⟩
     subst e
     have h4:=List.pairwise_append.1 (show (l2++k :: post).Pairwise (· < ·) from h4)
     rcases List.mem_append.1 hk with h | h
     ·have:=h4.2.2 k h k (by simp); omega
     ·have:=(List.pairwise_cons.1 h4.2.1).1 k h; omega)
    rw [List.filterMap_append,e3] at this
    exact this) hE
   refine wpOpIn_mono ?_ (Tq ho hs hE')
   rintro a' w' ⟨s1,hE1,hF⟩
   obtain ⟨θ',M',hs',hcomp⟩:=hF.comp
   refine ih _ s1 B S θ' M' w' a' hs' (by simpa using hsz) ?_ ?_ ?_ (fun s' a'' w'' hK hF'=>hQ s' a'' w'' hK (hcomp _ _ _ hF'))
   ·intro k ok hk hl e hek hbe
    have hmono:∀ m,listed.getD m false=true→(listed.setIfInBounds i true).getD m false=true:=fun m hm=>by
     rw [Array.getD_eq_getD_getElem?] at hm ⊢
     rw [Array.getElem?_setIfInBounds]
     split
     ·split <;> simp_all
     ·exact hm
    by_cases hki:k=i
    ·subst hki
     rw [ho] at hk; cases hk
     exact hmono _ (hafter e hek hbe)
    ·have:listed.getD k false=true:=by
      rw [Array.getD_eq_getD_getElem?] at hl ⊢
      rw [Array.getElem?_setIfInBounds,if_neg (Ne.symm hki)] at hl
      exact hl
     exact hmono _ (hcl k ok hk this e hek hbe)
   ·rw [hset]
    rw [he] at hf
    simp only [List.length_append,List.length_cons] at hf ⊢
    omega
   ·rw [hset,List.filterMap_append]
    exact hE1
def Ru (ops:List Oper) (m:Nat) (i j:Nat) (ts:List Nat):Bool:=ops.zipIdx.all fun p=>match p.1.dst with
 | some t=>!ts.contains t||decide (p.2 < j)||(decide (p.2 < i)&&m.testBit p.2)
 | none=>true
def Ak8 (ops:List Oper) (j t:Nat):Bool:=ops.zipIdx.all fun p=>p.2 == j||p.1.dst != some t
def Aez:Op→Option (Nat × Nat)
 | .load t (.tmp x)=>some (t,x)
 | _=>none
def Ag3:Op→Option Nat
 | .store _ (.tmp x) _=>some x
 | _=>none
def Yn (P:Program) (v q:List Nat) (ops tl:List Oper) (m:Nat) (i j:Nat) (oi oj:Oper):Option (List Cf):=
 if Tt v ops oj oi=true then some []
 else if oj.apart ops.toArray oi=false then none
 else if (rop oj.op&&oj.guard.isNone&&oi.guard.isNone&&Bdb v q oi.op)=true then some []
 else if tl.all (Aah v)=false then none
 else match Ag3 oi.op,Aez oj.op with
  | some x,_=>if (qop oj.op&&!isV v oj.op&&oi.guard.isNone&&oi.dst.isNone&&Ru ops m i j (Cf.sto (oj.looksAt ops.toArray) x).temps)=true then some [.sto (oj.looksAt ops.toArray) x] else none
  | none,some (t,x)=>if (oj.guard.isNone&&(Ab P t).agg == some false&&Jo oi.op&&oi.guard.isNone&&Ru ops m i j [x])=true then some [.app [x]] else match oj.dst with
   | some dj=>if (oj.guard.isNone&&(Ab P t).agg == some true&&Jo oi.op&&oi.guard.isNone&&Ru ops m i j [x]&&Ak8 ops j dj)=true then some [.app [x,dj]] else none
   | none=>none
  | _,_=>none
def Aij (P:Program) (v q:List Nat) (ops tl:List Oper) (m i:Nat) (oi:Oper):List (Oper × Nat)→Option (List Cf)
 | []=>some []
 | (oj,j) :: r=>if m.testBit j=true then Aij P v q ops tl m i oi r else
  match Yn P v q ops tl m i j oi oj,Aij P v q ops tl m i oi r with
  | some a,some b=>some (a++b)
  | _,_=>none
def Xo (P:Program) (v q:List Nat) (ops tl:List Oper) (b:Nat→Nat):List (Oper × Nat)→Option (List Cf)
 | []=>some []
 | (oi,i) :: r=>match Aij P v q ops tl (b i) i oi (ops.take i).zipIdx,Xo P v q ops tl b r with
  | some a,some c=>some (a++c)
  | _,_=>none
def Bdw (P:Program) (v q:List Nat) (ops:List Oper) (_:List Cf) (eqv:Option (List Cf)→Bool):Bool:=Jx ops [] fun l=>My ops (fun i=>l.getD i 0)&&eqv (Xo P v q ops ops (fun i=>l.getD i 0) ops.zipIdx)
def Wb:List Nat→List Nat→Bool
 | [],[]=>true
 | x :: r,y :: s=>(x == y)&&Wb r s
 | _,_=>false
def Cf.beq':Cf→Cf→Bool
 | .sto a x,.sto b y=>Wb a b&&(x == y)
 | .app a,.app b=>Wb a b
 | _,_=>false
def Y4:List Cf→List Cf→Bool
 | [],[]=>true
 | x :: r,y :: s=>x.beq' y&&Y4 r s
 | _,_=>false
theorem R7:∀ {a b:List Nat},Wb a b=true→a=b
 | [],[],_=>rfl
 | x :: r,y :: s,h=>by
  simp only [Wb,Bool.and_eq_true,beq_iff_eq] at h
  rw [h.1,R7 h.2]
 | [],_ :: _,h=>by cases h
 | _ :: _,[],h=>by cases h
theorem Cf.beq_eq {a b:Cf} (h:a.beq' b=true):a=b:=by
 cases a <;> cases b <;> simp only [Cf.beq',Bool.and_eq_true,beq_iff_eq] at h
 ·rw [R7 h.1,h.2]
 ·cases h
 ·cases h
 ·rw [R7 h]
theorem Qw:∀ {a b:List Cf},Y4 a b=true→a=b
 | [],[],_=>rfl
 | x :: r,y :: s,h=>by
  simp only [Y4,Bool.and_eq_true] at h
  rw [Cf.beq_eq h.1,Qw h.2]
 | [],_ :: _,h=>by cases h
 | _ :: _,[],h=>by cases h
def Ar7 (P:Program) (v q:List Nat) (ops:List Oper) (cfs:List Cf):Bool:=Bdw P v q ops cfs fun o=>match o with | some l=>Y4 l cfs | none=>false
theorem R5 {P:Program} {tl:List Oper} {v q:List Nat} {m i:Nat} {oi:Oper}:∀ {l:List (Oper × Nat)} {c:List Cf},Aij P v q ops tl m i oi l=some c→∀ p ∈ l,m.testBit p.2=false→∃ c',Yn P v q ops tl m i p.2 oi p.1=some c'∧∀ x ∈ c',x ∈ c
 | [],_,_,p,hp,_=>by cases hp
 | (oj,j) :: l,c,h,p,hp,ht=>by
  simp only [Aij] at h
  split at h
  ·rename_i hj
   rcases List.mem_cons.1 hp with e | hp
   ·subst e; rw [ht] at hj; cases hj
   ·exact R5 h p hp ht
  ·split at h
   ·rename_i a b h1 h2
    cases h
    rcases List.mem_cons.1 hp with e | hp
    ·subst e; exact ⟨a,h1,fun x hx=>by simp [hx]⟩
    ·obtain ⟨c',g1,g2⟩:=R5 h2 p hp ht
     exact ⟨c',g1,fun x hx=>by simp [g2 x hx]⟩
   ·cases h
theorem Vr {P:Program} {tl:List Oper} {v q:List Nat} {b:Nat→Nat}:∀ {l:List (Oper × Nat)} {c:List Cf},Xo P v q ops tl b l=some c→∀ p ∈ l,∃ c',Aij P v q ops tl (b p.2) p.2 p.1 (ops.take p.2).zipIdx=some c'∧∀ x ∈ c',x ∈ c
 | [],_,_,p,hp=>by cases hp
 | (oi,i) :: l,c,h,p,hp=>by
  simp only [Xo] at h
  split at h
  ·rename_i a d h1 h2
   cases h
   rcases List.mem_cons.1 hp with e | hp
   ·subst e; exact ⟨a,h1,fun x hx=>by simp [hx]⟩
   ·obtain ⟨c',g1,g2⟩:=Vr h2 p hp
    exact ⟨c',g1,fun x hx=>by simp [g2 x hx]⟩
  ·cases h
theorem Mt {m i j:Nat} {ts:List Nat} (h:Ru ops m i j ts=true) {k:Nat} {o:Oper} (hk:ops[k]?=some o) {t:Nat} (ht:t ∈ ts) (hd:o.dst=some t):k < j∨(k < i∧m.testBit k=true):=by
 unfold Ru at h
 rw [List.all_eq_true] at h
 have:=h (o,k) (List.mem_zipIdx_iff_getElem?.2 hk)
 simp only [hd,Bool.or_eq_true,Bool.not_eq_true',Bool.and_eq_true,decide_eq_true_eq] at this
 rcases this with (h1 | h1) | h1
 ·have:ts.contains t=true:=by simpa using ht
  rw [this] at h1; cases h1
 ·exact .inl h1
 ·exact .inr h1
theorem P8 {tl:List Oper} {b:Nat→Nat} {cfs c:List Cf} {i j:Nat} {oi oj:Oper} {rest:List Nat} (hc:Yn P r.v r.q ops tl (b i) i j oi oj=some c) (hsub:∀ x ∈ c,x ∈ cfs) (hji:j < i) (hi:ops[i]?=some oi) (hj:ops[j]?=some oj) (hbit:(b i).testBit j=false)
  (hrest:∀ k ∈ rest,j < k∧k≠i∧(k < i→(b i).testBit k=false)) (htl:∀ k ∈ rest,∀ o,ops[k]?=some o→o ∈ tl):H6 P r N ops oj∧Jj P r N ops (fun f=>∀ x ∈ cfs,x.ok f=true) oj oi (rest.filterMap (ops[·]?)):=by
 unfold Yn at hc
 split at hc
 ·rename_i h
  have:=Pv (P:=P) (r:=r) (N:=N) h
  exact ⟨this.1,Yj this.2⟩
 ·split at hc
  ·cases hc
  ·rename_i hap
   have hap:oj.apart ops.toArray oi=true:=by simpa using hap
   split at hc
   ·rename_i h
    simp only [Bool.and_eq_true,Option.isNone_iff_eq_none] at h
    obtain ⟨⟨⟨h1,h2⟩,h3⟩,h4⟩:=h
    unfold Bdb at h4
    split at h4
    ·rename_i f as ts hop
     simp only [Bool.and_eq_true] at h4
     exact ⟨Ep (Apg h1).1 (Rs (Apg h1).2.1),Yj (Ak4 h1 h2 h3 hop h4.1 h4.2 hap)⟩
    ·cases h4
   ·split at hc
    ·cases hc
    ·rename_i htm
     have htm:∀ o ∈ tl,Aah r.v o=true:=List.all_eq_true.1 (by simpa using htm)
     have htame:∀ o ∈ rest.filterMap (ops[·]?),Aah r.v o=true:=fun o ho=>by
      obtain ⟨k,hkr,hk⟩:=List.mem_filterMap.1 ho
      exact htm o (htl k hkr o hk)
     have free:∀ {ts:List Nat},Ru ops (b i) i j ts=true→∀ t ∈ ts,oj.dst≠some t∧oi.dst≠some t∧∀ o ∈ rest.filterMap (ops[·]?),o.dst≠some t:=fun hfr t ht=>by
      refine ⟨fun e=>?_,fun e=>?_,fun o ho e=>?_⟩
      ·rcases Mt hfr hj ht e with h | h
       ·omega
       ·rw [hbit] at h; cases h.2
      ·rcases Mt hfr hi ht e with h | h <;> omega
      ·obtain ⟨k,hk,hko⟩:=List.mem_filterMap.1 ho
       obtain ⟨g1,g2,g3⟩:=hrest k hk
       rcases Mt hfr hko ht e with h | h
       ·omega
       ·rw [g3 h.1] at h; cases h.2
     split at hc
     ·rename_i x y hst
      split at hc
      ·rename_i h
       cases hc
       simp only [Bool.and_eq_true,Bool.not_eq_true',Option.isNone_iff_eq_none] at h
       obtain ⟨⟨⟨⟨h1,h2⟩,h3⟩,h4⟩,h5⟩:=h
       unfold Ag3 at hst
       split at hst
       ·rename_i t x' v' hop
        cases hst
        refine ⟨Ep h1 h2,Aft h1 h2 hop h3 h4 hap htame (fun t ht=>?_) (fun f hf=>hf _ (hsub _ (by simp)))⟩
        exact ⟨(free h5 t ht).1,(free h5 t ht).2.2⟩
       ·cases hst
      ·cases hc
     ·rename_i t x hst hld
      split at hc
      ·rename_i h
       cases hc
       simp only [Bool.and_eq_true,Option.isNone_iff_eq_none,beq_iff_eq] at h
       obtain ⟨⟨⟨⟨h1,h2⟩,h3⟩,h4⟩,h5⟩:=h
       unfold Aez at hld
       split at hld
       ·rename_i t' x' hop
        cases hld
        refine ⟨Ep (by rw [hop]; rfl) (by rw [hop]; rfl),Zn hop h1 h2 h3 h4 hap htame (fun t ht=>free h5 t ht) (fun f hf=>hf _ (hsub _ (by simp)))⟩
       ·cases hld
      ·split at hc
       ·rename_i dj hdj
        split at hc
        ·rename_i h
         cases hc
         simp only [Bool.and_eq_true,Option.isNone_iff_eq_none,beq_iff_eq] at h
         obtain ⟨⟨⟨⟨⟨h1,h2⟩,h3⟩,h4⟩,h5⟩,h6⟩:=h
         have sole:∀ {k:Nat} {o:Oper},ops[k]?=some o→k≠j→o.dst≠some dj:=fun {k o} hk hkj e=>by
          unfold Ak8 at h6
          rw [List.all_eq_true] at h6
          have h7:=h6 (o,k) (List.mem_zipIdx_iff_getElem?.2 hk)
          simp [hkj,e] at h7
         unfold Aez at hld
         split at hld
         ·rename_i t' x' hop
          cases hld
          refine ⟨Ep (by rw [hop]; rfl) (by rw [hop]; rfl),Aaw hop h1 h2 hdj ⟨sole hi (by omega),fun o ho=>?_⟩ h3 h4 hap htame (fun t ht=>free h5 t ht) (fun f hf=>hf _ (hsub _ (by simp)))⟩
          obtain ⟨k,hkr,hk⟩:=List.mem_filterMap.1 ho
          exact sole hk (by have:=(hrest k hkr).1; omega)
         ·cases hld
        ·cases hc
       ·cases hc
     ·cases hc
theorem Ab4 {id:Nat} {st:St} {Q:AEx→St→Prop} (cfs:List Cf) (hm:P.follows .mixedOrders=true) (hchk:Ar7 P r.v r.q ops cfs=true) (h:EL P r N ops ops st (fun s=>(cfs.all fun c=>c.ok s.t)=true∧Q .normal s)):AWP P r N (.region id ops.toArray true) st Q:=by
 obtain ⟨l,hl⟩:=Hu hchk
 rw [Bool.and_eq_true] at hl
 obtain ⟨hl1,hl2⟩:=hl
 clear hchk
 have hrows:Xo P r.v r.q ops ops (fun i=>l.getD i 0) ops.zipIdx=some cfs:=by
  revert hl2
  cases Xo P r.v r.q ops ops (fun i=>l.getD i 0) ops.zipIdx with
  | none=>intro h; cases h
  | some c=>intro h; rw [Qw h]
 generalize hbb:(fun i=>l.getD i 0)=bb at *
 clear hl2
 intro B S θ M w a hs
 refine wpIn_region_any hm ?_
 have hrem:Br ops.length (Array.replicate ops.length false)=List.range ops.length:=Hz _
 refine Ai4 (D:=fun f=>∀ x ∈ cfs,x.ok f=true) (K:=fun s=>(cfs.all fun c=>c.ok s.t)=true∧Q .normal s) (Ft hl1) (fun i j oi oj rest hji hi hj hbit hrest=>?_) (fun s' hs'=>List.all_eq_true.1 hs'.1) ops.toArray.size (Array.replicate ops.toArray.size false) st B S θ M _ a (hs.drawn _) (by simp) (fun k o hk hL=>?_) ?_ ?_ (fun s' a' w' hk hF=>⟨.normal,s',rfl,hk.2,?_⟩)
 ·obtain ⟨c1,g1,g2⟩:=Vr hrows (oi,i) (List.mem_zipIdx_iff_getElem?.2 hi)
  obtain ⟨c2,g3,g4⟩:=R5 g1 (oj,j) (List.mem_zipIdx_iff_getElem?.2 (by rw [List.getElem?_take,if_pos hji]; exact hj)) hbit
  exact P8 (b:=bb) g3 (fun x hx=>g2 x (g4 x hx)) hji hi hj hbit hrest (fun k _ o ho=>List.mem_of_getElem? ho)
 ·simp only [Array.getD_eq_getD_getElem?,Array.getElem?_replicate] at hL
  split at hL <;> simp at hL
 ·simp only [List.size_toArray]; rw [hrem]; simp
 ·simp only [List.size_toArray]; rw [hrem,C1]; exact h
 ·obtain ⟨⟨θ',M',h1,h2,h3,h4⟩,h5⟩:=hF
  exact ⟨⟨θ',M',h1,⟨h2.size,h2.same,h2.os,h2.tape,h2.output⟩,h3,h4⟩,h5⟩
end
end AM
end
/- The abstract machine, part 37: states whose objects are not all written out. -/
section
namespace AM
open Go
theorem Ad {α:Type} {f:Nat→α} {d:Nat} {x:α} {i:Nat} (h:i≠d):upd f d x i=f i:=if_neg h
theorem Bb {α:Type} {f:Nat→α} {d:Nat} {x:α}:upd f d x d=x:=if_pos rfl
theorem Bw {α:Type} {f:Nat→α} {d:Nat} {x y:α}:upd (upd f d x) d y=upd f d y:=by
 funext i; unfold upd; by_cases h:i=d <;> simp [h]
def Lr (os:Nat→Option AO):List (Nat × AV)→Prop
 | []=>True
 | (_,x) :: l=>x.lives os∧Lr os l
theorem Ae1 {os:Nat→Option AO}:Lr os []=True:=rfl
theorem Su {os:Nat→Option AO} {j:Nat} {x:AV} {l:List (Nat × AV)}:Lr os ((j,x) :: l)=(x.lives os∧Lr os l):=rfl
theorem Ts {os:Nat→Option AO} {x:PV}:(AV.p x).lives os=True:=eq_true (AV.lives_p os x)
theorem Tu {os:Nat→Option AO}:AV.undef.lives os=True:=eq_true (AV.lives_undef os)
theorem Hm {os:Nat→Option AO} {x:AV} {n:Nat} (h:∀ m,x.clean m=(n != m)):x.lives os=((os n).isSome=true):=by
 apply propext
 constructor
 ·intro hx; exact hx n (by rw [h]; simp)
 ·intro hx m hm; rw [h] at hm; simp only [bne_eq_false_iff_eq] at hm; subst hm; exact hx
theorem C5 {os:Nat→Option AO} {n off:Nat}:(AV.ptr n off).lives os=((os n).isSome=true):=Hm fun _=>rfl
theorem Wx {os:Nat→Option AO} {n k i off:Nat}:(AV.eptr n k i off).lives os=((os n).isSome=true):=Hm fun _=>rfl
theorem Zw {os:Nat→Option AO} {n len:Nat}:(AV.own n len).lives os=((os n).isSome=true):=Hm fun _=>rfl
theorem Aa7 {os:Nat→Option AO} {n off k len:Nat}:(AV.csl n off k len).lives os=((os n).isSome=true):=Hm fun _=>rfl
theorem Q0 {os:Nat→Option AO} {n:Nat}:(AV.yld n).lives os=((os n).isSome=true):=Hm fun _=>rfl
theorem Sm {os:Nat→Option AO} {n:Nat}:(AV.mp n).lives os=((os n).isSome=true):=Hm fun _=>rfl
def Ja (os:Nat→Option AO):List AV→Prop
 | []=>True
 | x :: l=>x.lives os∧Ja os l
theorem Ct {os:Nat→Option AO}:Ja os []=True:=rfl
theorem Cl {os:Nat→Option AO} {x:AV} {l:List AV}:Ja os (x :: l)=(x.lives os∧Ja os l):=rfl
theorem Eo {os:Nat→Option AO} {l:List AV}:Ja os l↔∀ (i:Nat) (x:AV),l[i]?=some x→x.lives os:=by
 induction l with
 | nil=>simp [Ja]
 | cons y r ih=>
  rw [Cl,ih]
  constructor
  ·rintro ⟨h1,h2⟩ i x hx
   cases i with
   | zero=>simp at hx; exact hx ▸ h1
   | succ i=>exact h2 i x (by simpa using hx)
  ·intro h
   exact ⟨h 0 y (by simp),fun i x hx=>h (i+1) x (by simpa using hx)⟩
theorem Aam {os:Nat→Option AO} {cs:List AV}:(AV.agg cs).lives os=Ja os cs:=propext (AV.lives_agg.trans Eo.symm)
theorem Zz {os:Nat→Option AO} {cs:List AV}:(AV.tup cs).lives os=Ja os cs:=propext (AV.lives_tup.trans Eo.symm)
theorem Fr {os:Nat→Option AO} {f:Fn} {fs cs:List AV}:(AV.fn f fs cs).lives os=(Ja os fs∧Ja os cs):=by
 apply propext
 constructor
 ·intro h; exact ⟨Eo.2 (F2 h).1,Eo.2 (F2 h).2⟩
 ·rintro ⟨h1,h2⟩ n hn
  simp only [AV.clean,Bool.and_eq_false_iff] at hn
  rcases hn with hn | hn
  ·exact AV.lives_cells.1 (Eo.1 h1) n hn
  ·exact AV.lives_cells.1 (Eo.1 h2) n hn
theorem T1 {os:Nat→Option AO} {l:List (Nat × AV)} (h:Lr os l) (i:Nat):(T l i).lives os:=by
 induction l with
 | nil=>exact AV.lives_undef _
 | cons p r ih=>
  obtain ⟨j,x⟩:=p
  rw [Su] at h
  rw [Af]
  split
  ·exact h.1
  ·exact ih h.2
theorem Z1 {t:Nat→AV} {l:List (Nat × AV)} (h:leT t l) (i:Nat):T l i=.undef∨T l i=t i:=by
 induction l with
 | nil=>exact .inl rfl
 | cons p r ih=>
  obtain ⟨j,x⟩:=p
  rw [Av] at h
  rw [Af]
  split
  ·rename_i e; subst e; exact .inr h.1.symm
  ·exact ih h.2
theorem Cq {os:Nat→Option AO} {n:Nat} {o:AO} (h:(Hp os).closed) (ho:o.lives (upd os n (some o))):(Hp (upd os n (some o))).closed:=by
 have hm:∀ m,(os m).isSome=true→(upd os n (some o) m).isSome=true:=fun m hm=>by
  unfold upd; split
  ·rfl
  ·exact hm
 refine ⟨fun _=>AV.lives_undef _,fun m o' ho'=>?_⟩
 have ho':upd os n (some o) m=some o':=ho'
 unfold upd at ho'
 split at ho'
 ·cases ho'; exact ho
 ·exact AO.lives_mono hm (h.2 m o' ho')
theorem Dv {os:Nat→Option AO} {cs:List AV}:(AO.cells cs).lives os=Ja os cs:=propext (AO.lives_cells.trans Eo.symm)
theorem Aap {os:Nat→Option AO} {k:Nat} {es:List (List PV)}:(AO.arr k es).lives os=True:=eq_true (AO.lives_arr os k es)
theorem Z5 {os:Nat→Option AO} {X:Obj→Prop}:(AO.obj X).lives os=True:=eq_true (AO.lives_obj os X)
def Sub (os f:Nat→Option AO):Prop:=∀ n,os n=none∨os n=f n
theorem Sub.refl (os:Nat→Option AO):Sub os os:=fun _=>.inr rfl
theorem Sub.skip {os f:Nat→Option AO} {d:Nat} {x:Option AO} (hd:os d=none) (h:Sub os f):Sub os (upd f d x):=fun n=>by
 by_cases e:n=d
 ·subst e; exact .inl hd
 ·rw [Ar e]; exact h n
theorem Sub.both {os f:Nat→Option AO} {d:Nat} {x:Option AO} (h:Sub os f):Sub (upd os d x) (upd f d x):=fun n=>by
 by_cases e:n=d
 ·subst e; exact .inr (by rw [Ev,Ev])
 ·rw [Ar e,Ar e]; exact h n
theorem Lx {l:List (Nat × AO)} {b:Nat} (h:l.all fun x=>decide (x.1 < b)):∀ n,b≤n→O l n=none:=by
 intro n hn
 induction l with
 | nil=>rfl
 | cons x l ih=>
  simp only [List.all_cons,Bool.and_eq_true,decide_eq_true_eq] at h
  rw [Ag,if_neg (by omega)]
  exact ih h.2
theorem F9 {l1:List (Nat × AV)} {os:Nat→Option AO} {s:St} (h1:leT s.t l1) (h2:Sub os s.o) (h3:Lr os l1) (h4:(Hp os).closed):St.le ⟨T l1,os⟩ s:=
 ⟨fun i=>Z1 h1 i,h2,⟨fun i=>T1 h3 i,h4.2⟩⟩
section
variable {P:Program} {r:RB} {N:Nat} {dst:Option Nat} {K:St→Prop}
theorem Vn {bd:Nat} {fv:AV} {args:List AV} {t:Nat→AV} {os:Nat→Option AO} {R:AV→(Nat→Option AO)→Prop} (l':List (Nat × AV)) (hd:Bx N dst=true) (hc:Bg P bd fv args os R) (hbd:∀ n,bd≤n→os n=none) (hb:r.b≤bd)
  (h:∀ res os',R res os'→(Hp os').closed→res.lives os'→leT t l'∧Lr os' l'∧K (St.put ⟨T l',os'⟩ dst res)):Ary P r N fv args dst ⟨t,os⟩ K:=
 ⟨hd,_,bd,R,hc,hbd,hb,fun _ h=>h.elim,fun res os' h1 h2 h3=>by
  obtain ⟨h4,h5,hK⟩:=h res os' h1 h2 h3
  exact ⟨T l',fun i=>(Z1 h4 i).imp id (fun e=>⟨e,fun _ hm=>hm.elim⟩),fun i=>T1 h5 i,hK⟩⟩
theorem A1 {bd:Nat} {fv:AV} {args:List AV} {t:Nat→AV} {os:Nat→Option AO} {R:AV→(Nat→Option AO)→Prop} (l':List (Nat × AV)) (hd:Bx N dst=true) (hc:Bg P bd fv args os R) (hbd:∀ n,bd≤n→os n=none) (hb:r.b≤bd)
  (h:∀ res os',R res os'→(Hp os').closed→res.lives os'→leT t l'∧Lr os' l'∧K (St.put ⟨T l',os'⟩ dst res)):EVk P r N fv args dst ⟨t,os⟩ K:=.inl (Vn l' hd hc hbd hb h)
theorem Af0 {bd:Nat} {fv:AV} {args:List AV} {t:Nat→AV} {os os2:Nat→Option AO} {R:AV→(Nat→Option AO)→Prop} (n:Nat) {k:Nat} {es:List (List PV)} (hn:os n=some (.arr k es)) (l2 l':List (Nat × AV)) (hs:St.frz n es ⟨t,os⟩=⟨T l2,os2⟩) (hd:Bx N dst=true)
  (hc:Bg P bd (fv.frz n es) (args.map (AV.frz n es)) os2 R) (hbd:∀ n,bd≤n→os2 n=none) (hb:r.b≤bd)
  (h:∀ res os',R res os'→(Hp os').closed→res.lives os'→leT (T l2) l'∧Lr os' l'∧K (St.put ⟨T l',os'⟩ dst res)):EVk P r N fv args dst ⟨t,os⟩ K:=
 .inr (.inl ⟨n,k,es,hn,by rw [hs]; exact Vn l' hd hc hbd hb h⟩)
theorem Cb {bd:Nat} {fv:AV} {args:List AV} {s:St} {res:AV} (hd:Bx N dst=true) (hc:Bg P bd fv args s.o (fun x os'=>x=res∧os'=s.o)) (hbd:∀ n,bd≤n→s.o n=none) (hb:r.b≤bd) (hp:res.isP=true) (h:K (s.put dst res)):EVk P r N fv args dst s K:=.inr (.inr ⟨hd,bd,res,hc,hbd,hb,hp,h⟩)
theorem Abr {rs:List ResultVar} {R:AV→(Nat→Option AO)→Prop} {s:St}:Agc P rs R .normal s=Ado P rs R s:=rfl
theorem Adu {rs:List ResultVar} {R:AV→(Nat→Option AO)→Prop} {s:St}:Agc P rs R .ret s=Ado P rs R s:=rfl
theorem A3 {rs:List ResultVar} {R:AV→(Nat→Option AO)→Prop} {s:St} {res:AV} (os':Nat→Option AO) (h1:(Cv P s rs).map Df=some res) (h2:Sub os' s.o) (h3:(Hp os').closed) (h4:res.lives os') (h5:R res os'):Ado P rs R s:=⟨res,os',h1,h2,h3,h4,h5⟩
theorem Ah5 {i:Nat} {s:St}:(Cv P s [.tmp i]).map Df=some (s.t i):=rfl
theorem Akx {s:St}:(Cv P s []).map Df=some (.tup []):=rfl
end
section
variable {P:Program} {r:RB} {N:Nat} {s:St} {K:St→Prop} {dst:Option Nat} {ty:TypeId} {pos:String} {after:Array Edge} {g:Option (Nat × Bool)}
theorem Vw {t:TypeId} {x i:Operand}:EO P r N ⟨dst,.index t x i,ty,pos,after,g⟩ s K=EOp r.b N dst s K (Afo (fun e=>(Ab P e).sz) (fun e=>(Ab P e).agg) (ev s.t x) (Ab P t).k (ev s.t i)):=by
 refine C7 rfl rfl ?_
 simp only [eff]
 cases (Ab P t).k with
 | arr len e=>
  cases hx:ev s.t x with
  | agg cs=>
   cases hi:ev s.t i with
   | p q=>cases q with
    | val v=>cases v with
     | int k n=>simp only [Afo]; cases (Ab P e).agg <;> rfl
     | _=>rfl
    | _=>rfl
   | _=>rfl
  | _=>cases hi:ev s.t i with
   | p q=>cases q with
    | val v=>cases v with
     | int k n=>simp only [Afo]
     | _=>rfl
    | _=>rfl
   | _=>rfl
 | _=>cases ev s.t i <;> first | rfl | (rename_i q; cases q <;> first | rfl | (rename_i v; cases v <;> rfl))
theorem Ank {os:Nat→Option AO} {f:Fn}:Fb os (.fn f [] [])=some (.fn f [] []):=rfl
def Ael:AV→Option Nat
 | .p (.sl l)=>some l.length
 | .own _ len=>some len
 | _=>none
theorem Ajr {st:St} {o:Oper} {t u:TypeId} {e:TypeId} {x:Operand} {len:Nat} (ho:o.op=.binOp .eql t x (.const (.slice none 0 0)) u) (hd:∀ k,o.dst=some k→k < N) (ht:(Ab P t).k=.sl e) (hx:Ael (ev st.t x)=some len) (h:∀ b:Bool,(b=true→len=0)→K (st.put o.dst (bl b))):B4 P r N o st K:=by
 intro B S θ M w a Q hs
 refine ⟨fun _ _=>trivial,?_⟩
 rw [Oper.semAt_eq _ _ _ (by rw [ho]; intro c h; cases h)]
 have hv:∃ a' l c,a.eval x=.slice a' l c∧(a'.isNone=true→len=0):=by
  have hr:=Am hs x
  revert hx hr
  cases ev st.t x with
  | p y=>cases y with
   | sl l=>
    intro hx hr
    cases hr with
    | p _ _ hp=>
     simp only [Ael,Option.some.injEq] at hx
     generalize a.eval x=v at hp
     cases hp with
     | nil=>exact ⟨none,0,0,rfl,fun _=>hx.symm⟩
     | sl _ b o' c k cv _ _ _ _=>exact ⟨_,_,_,rfl,fun h=>by cases h⟩
   | _=>intro hx; simp [Ael] at hx
  | own n l=>
   intro hx hr
   simp only [Ael,Option.some.injEq] at hx
   generalize a.eval x=v at hr
   cases hr with
   | own _ _ _ _=>exact ⟨_,_,_,rfl,fun h=>by cases h⟩
   | ownNil _ _=>exact ⟨none,0,0,rfl,fun _=>hx.symm⟩
  | _=>intro hx; simp [Ael] at hx
 obtain ⟨a',l,c,hv,hl⟩:=hv
 have hrun:(execOp a.eval o).run P w=.ok (.value (.bool a'.isNone)) w:=by
  simp only [execOp,ho,hv]
  refine Kx ?_
  simp [Act.eval,eqGuard,binOp,run_equal_slice_nil w t e a' l c (D4 ht)]
 rw [hrun]
 exact ⟨_,h a'.isNone hl,(Adv.put hs hd (.p _ _ (.val _ rfl)) (AV.lives_p _ _)).toM,by cases o.dst <;> rfl⟩
theorem Qu {st:St} {Q:AEx→St→Prop} {id d0 d1 i:Nat} {t u e ty0 ty1:TypeId} {pos0 pos1:String} {af0 af1:Array Edge} {len:Nat} (h0:d0 < N) (h1:d1 < N) (ht:(Ab P t).k=.sl e) (hx:Ael (st.t i)=some len)
  (h:∀ b:Bool,(b=true→len=0)→Q .normal ((st.put (some d0) (st.t i)).put (some d1) (bl b))) :
  AWP P r N (.region id [(⟨some d0,.move (.tmp i),ty0,pos0,af0,none⟩:Oper),⟨some d1,.binOp .eql t (.tmp d0) (.const (.slice none 0 0)) u,ty1,pos1,af1,none⟩].toArray false) st Q:=by
 refine C0 (AL.step (Fh ?_))
 rw [Agq]
 refine ⟨by simpa using h0,AL.step (Ajr rfl (fun k hk=>by cases hk; exact h1) ht (x:=.tmp d0) (len:=len) ?_ fun b hb=>AL.nil (h b hb))⟩
 show Ael ((st.put (some d0) (st.t i)).t d0)=some len
 have:(st.put (some d0) (st.t i)).t d0=st.t i:=by simp [St.put,upd]
 rw [this]; exact hx
def Asg (esz:Nat→Nat) (ea:Nat→Option Bool) (len e:Nat):AV→Option Int→Option Int→Option Eff
 | .ptr n off,some l,some h=>if 0≤l∧l≤h∧h≤len∧(ea e).isSome∧l < len then some (.pure (.csl n (off+l.toNat * esz e) (esz e) (h - l).toNat)) else none
 | _,_,_=>none
theorem Zd {t:TypeId} {x:Operand} {lo hi:Option Operand} {len e:Nat} (hk:(Ab P t).k=.arr len e):EO P r N ⟨dst,.slice t x lo hi none,ty,pos,after,g⟩ s K=EOp r.b N dst s K (Asg (fun e=>(Ab P e).sz) (fun e=>(Ab P e).agg) len e (ev s.t x) (A9 (ev s.t) 0 lo) (A9 (ev s.t) len hi)):=by
 refine C7 rfl rfl ?_
 simp only [eff,hk]
 cases ev s.t x <;> cases A9 (ev s.t) 0 lo <;> cases A9 (ev s.t) len hi <;> rfl
theorem Bk {ρ:Operand→AV} {d:Nat}:A9 ρ d none=some (d:Int):=rfl
def Azy:AV→Option Int
 | .p (.val (.int .i64 n))=>some n
 | _=>none
theorem Bj {ρ:Operand→AV} {d:Nat} {x:Operand}:A9 ρ d (some x)=Azy (ρ x):=rfl
theorem B1 {n:Int}:Azy (.p (.val (.int .i64 n)))=some n:=rfl
theorem B3 {esz:Nat→Nat} {ea:Nat→Option Bool} {len e n off:Nat} {l h:Int}:Asg esz ea len e (.ptr n off) (some l) (some h)=if 0≤l∧l≤h∧h≤len∧(ea e).isSome∧l < len then some (.pure (.csl n (off+l.toNat * esz e) (esz e) (h - l).toNat)) else none:=rfl
end
def Nt:Code→Option (Code × Code)
 | .seq a b=>match Nt a with | some x=>some x | none=>Nt b
 | .block _ c=>Nt c
 | .loop c=>Nt c
 | .rangeFunc _ _ a b=>some (a,b)
 | _=>none
theorem Wr {nl:Nat} {k:F8} {tm:List (Nat × AV)} {R:AV→(Nat→Option AO)→Prop} {s:St}:V5 nl k tm R .normal s=Pm nl k tm R none s:=rfl
theorem Aem {nl:Nat} {k:F8} {tm:List (Nat × AV)} {R:AV→(Nat→Option AO)→Prop} {s:St}:V5 nl k tm R .ret s=Pm nl k tm R (some .ret) s:=rfl
theorem Rg {nl:Nat} {k:F8} {tm:List (Nat × AV)} {R:AV→(Nat→Option AO)→Prop} {jump:Option Code} {s:St} (os':Nat→Option AO) (h1:s.o nl=some (.loop { k with state:=.busy } tm)) (h2:Sub os' (upd s.o nl (some (.loop { k with state:=if jump.isNone then .ready else .done,pending:=jump } tm)))) (h3:(Hp os').closed) (h4:R (bl jump.isNone) os'):Pm nl k tm R jump s:=⟨h1,os',h2,h3,h4⟩
theorem Rd {θ:Nat→Loc} {M:Nat→Prop} {w:World} {v:Value} (h:Al θ M w (.p (.val (.slice none 0 0))) v):v=.slice none 0 0:=by
 cases h with
 | p _ _ h=>cases h with
  | val v _=>rfl
theorem Yg {P:Program} {r:RB} {N:Nat} {c:Code} {s:St} {Q:AEx→St→Prop} (n k i:Nat) (hn4:r.b≤n) (hi:s.t i=.p (.val (.slice none 0 0))) (hfree:s.o n=none)
  (h:AWP P r N c ⟨upd s.t i (.own n 0),upd s.o n (some (.arr k []))⟩ Q):AWP P r N c s Q:=by
 intro B S θ M w a hs
 have hS:=hs.new (d:=n) hfree (w':=w) (l:=⟨0,0,true⟩) (o:=.arr k []) (Nat.le_refl _) (fun _ _=>rfl) (fun e=>by cases e)
  ⟨fun i e he=>by simp at he,.inl ⟨rfl,rfl⟩⟩ (AO.lives_arr _ _ _)
 have hv:a.tmps.getD i undef=.slice none 0 0:=Rd (hi ▸ hs.tm i)
 have hS2:Aq N B S (Db θ n ⟨0,0,true⟩) (fun b=>M b∨((true:Bool)=false∧b=0)) w ⟨upd s.t i (.own n 0),upd s.o n (some (.arr k []))⟩ a:=by
  refine ⟨hS.size,fun j=>?_,hS.ob,hS.lv,hS.inj,hS.base,hS.mlt,⟨fun j=>?_,hS.cl.2⟩⟩
  ·show Al _ _ _ (upd s.t i (.own n 0) j) _
   by_cases e:j=i
   ·subst e
    rw [Ev,hv]
    exact .ownNil n (by simp)
   ·rw [Ar e]; exact hS.tm j
  ·show (upd s.t i (.own n 0) j).lives _
   by_cases e:j=i
   ·subst e
    rw [Ev]
    intro m hm
    simp only [AV.clean,bne_eq_false_iff_eq] at hm
    subst hm
    show (upd s.o n (some (.arr k [])) n).isSome=true
    simp
   ·rw [Ar e]; exact hS.cl.1 j
 have:=h B S _ _ w a hS2
 refine wpIn_mono this ?_
 rintro e a' w' ⟨ae,st',h1,h2,⟨⟨θ',M',h3,h4,h5,h6⟩,h7⟩⟩
 exact ⟨ae,st',h1,h2,⟨⟨θ',M',h3,h4,fun m hm hv=>(h5 m hm hv).trans (Ay (by omega)),fun b hb hm=>h6 b hb (.inl hm)⟩,h7⟩⟩
theorem Po {P:Program} {r:RB} {N:Nat} {c:Code} {l:List (Nat × AV)} {m:List (Nat × AO)} {Q:AEx→St→Prop} (n k i:Nat) (hn4:r.b≤n) (hi:T l i=.p (.val (.slice none 0 0))) (hfree:O m n=none)
  (h:AWP P r N c ⟨T ((i,.own n 0) :: l),O ((n,.arr k []) :: m)⟩ Q):AWP P r N c ⟨T l,O m⟩ Q:=Yg n k i hn4 hi hfree h
end AM
namespace AM
open Go
end AM
end
/- Accounts in plain Lean, and how they lie in abstract values. -/
section
namespace AM.Duty
open Go AM
structure Ah7 where
 day:Int
 pence:Int
 deriving DecidableEq
structure Agw where
 kind:Int
 day:Int
 lo:Int
 hi:Int
 pence:Int
 deriving DecidableEq
structure Acc where
 last:Int
 interest:Int
 bond:Int
 purse:Int
 rates:List Ah7
 entries:List Agw
instance:Inhabited Ah7:=⟨⟨0,0⟩⟩
instance:Inhabited Agw:=⟨⟨0,0,0,0,0⟩⟩
abbrev H9 (r:Ah7):List PV:=[iv r.day,iv r.pence]
abbrev Ka (l:List Agw) (k:Nat):Agw:=l.getD k default
abbrev Bdy (l:List Ah7) (k:Nat):Ah7:=l.getD k default
theorem Bh {l:List Ah7} {k:Nat} (h:k < l.length):(l.map H9).getD k []=H9 (Bdy l k):=Cp _ _ _ h
theorem Az9 {a:PV} {l:List PV}:List.map AV.p (a :: l)=.p a :: List.map AV.p l:=rfl
def inB (n lo hi:Int):Bool:=decide (lo≤n)&&decide (n≤hi)
end AM.Duty
namespace AM
theorem Aye {c:Prop} [Decidable c] {α:Type} {a b:α} (h:¬ c):(if c then a else b)=b:=if_neg h
end AM
end
/- The rewriting set of the walks, as one conjunction. -/
section
namespace AM
open Go AM AM.Duty
def Bbc:=PLift.up (And.intro @Wg (And.intro @Yi (And.intro @Q7 (And.intro @Abj (And.intro @Ae9 (And.intro @Bb (And.intro @Ae1 (And.intro @Su (And.intro @Ts (And.intro @Tu (And.intro @C5 (And.intro @Wx (And.intro @Zw (And.intro @Aa7 (And.intro @Q0 (And.intro @Sm (And.intro @Ct (And.intro @Cl (And.intro @Aam (And.intro @Zz (And.intro @Fr (And.intro @Dv (And.intro @Aap (@Z5))))))))))))))))))))))))
def Bci:=PLift.up (And.intro @Abr (And.intro @Adu (And.intro @Ah5 (And.intro @Akx (And.intro @List.cons_append.{0} (And.intro @List.append_nil.{0} (And.intro @RB.b_mk (And.intro @RB.v_mk (And.intro @RB.q_mk (And.intro @Az0 (And.intro @Azp (And.intro @Bcc (And.intro @Ad4 (And.intro @An3 (And.intro @Aj8 (And.intro @Adk (And.intro @Am4 (And.intro @Ae5 (And.intro @ixs.eq_1 (And.intro @ixs.eq_2 (And.intro @Ba3 (And.intro @Af (And.intro @Bcs (@Ag))))))))))))))))))))))))
def Bai:=PLift.up (And.intro @Bbx (And.intro @Bdc (And.intro @Apl (And.intro @Anv (And.intro @Aqa (And.intro @Ao4 (And.intro @Aqw (And.intro @Ama (And.intro @Oer.eq_1 (And.intro @Oer.eq_2 (And.intro @Lk (And.intro @Abw (And.intro @Xm (And.intro @Aer (And.intro @Ajk (And.intro @Ah4 (And.intro @Ah6 (And.intro @Aj6 (And.intro @Ex (And.intro @Gg (And.intro @AV.clean.cleanL.eq_1 (And.intro @AV.clean.cleanL.eq_2 (And.intro @AV.clean.eq_1 (@AV.clean.eq_2))))))))))))))))))))))))
def Bc6:=PLift.up (And.intro @AV.clean.eq_3 (And.intro @AV.clean.eq_4 (And.intro @AV.clean.eq_5 (And.intro @AV.clean.eq_6 (And.intro @AV.clean.eq_7 (And.intro @AV.clean.eq_8 (And.intro @AV.clean.eq_9 (And.intro @AV.clean.eq_10 (And.intro @AV.clean.eq_11 (And.intro @Aw5 (And.intro @A2 (And.intro @Av (And.intro @Ba (And.intro @A4 (And.intro @nm.eq_1 (And.intro @nm.eq_2 (And.intro @nm.eq_3 (And.intro @nm.eq_4 (And.intro @nm.eq_5 (And.intro @nm.eq_6 (And.intro @nm.eq_7 (And.intro @nm.eq_8 (And.intro @nm.eq_9 (@nm.eq_10))))))))))))))))))))))))
def Az7:=PLift.up (And.intro @nm.eq_11 (And.intro @nmL.eq_1 (And.intro @nmL.eq_2 (And.intro @nmT.eq_1 (And.intro @nmT.eq_2 (And.intro @nmO.eq_1 (And.intro @nmO.eq_2 (And.intro @nmO.eq_3 (And.intro @nmO.eq_4 (And.intro @T7.eq_1 (And.intro @T7.eq_2 (And.intro @Ks.eq_1 (And.intro @Ks.eq_2 (And.intro @List.contains_cons.{0} (And.intro @List.contains_nil.{0} (And.intro @Bool.or_false (And.intro @Bool.or_true (And.intro @beq_self_eq_true.{0} (And.intro @Ait (And.intro @Ae3 (And.intro @Arz (And.intro @Agh (And.intro @Aej (@Acn))))))))))))))))))))))))
def Az8:=PLift.up (And.intro @Ais (And.intro @Aes (And.intro @Api (And.intro @Aig (And.intro @Ajd (And.intro @Aqj (And.intro @Ajg (And.intro @Ap6 (And.intro @Art (And.intro @Int.toNat_natCast (And.intro @Int.natCast_nonneg (And.intro @List.length_map.{0,0} (And.intro @Int.natCast_add (And.intro @Int.natCast_succ (And.intro @Int.natCast_one (And.intro @Int.natCast_zero (And.intro @Amp (And.intro @Aye (And.intro @List.length_take_of_le.{0} (And.intro @Apf (And.intro @Wp (And.intro @Ae8 (And.intro @Xe (@U1))))))))))))))))))))))))
def Bcg:=PLift.up (And.intro @Aeu (And.intro @Ab1 (And.intro @Ao8 (And.intro @W4 (And.intro @Wn (And.intro @Vi (And.intro @Al2 (And.intro @Ad2 (And.intro @Ajf (And.intro @Acf (And.intro @Ail (And.intro @Aib (And.intro @Aax (And.intro @List.nil_append.{0} (And.intro @Bool.true_eq_false (And.intro @List.take_length.{0} (And.intro @true_or (And.intro @or_true (And.intro @Int.tdiv_eq_ediv_of_nonneg (And.intro @Int.tmod_eq_emod_of_nonneg (And.intro @Aiy (And.intro @Aqz (And.intro @Aof (@Aji))))))))))))))))))))))))
def Bcp:=PLift.up (And.intro @Arm (And.intro @Ar5 (And.intro @Aj2 (And.intro @Afy (And.intro @Aa2 (And.intro @Wv (And.intro @Ap3 (And.intro @Am7 (And.intro @Aje (And.intro @W3 (And.intro @Aew (And.intro @Ac3 (And.intro @Az9 (And.intro @Arn (And.intro @Int.cast_ofNat_Int (And.intro @Int.add_zero (And.intro @ELg (And.intro @Bce (And.intro @Auy (And.intro @Axp (And.intro @Bx.eq_1 (And.intro @Bx.eq_2 (And.intro @Axy (@Axh))))))))))))))))))))))))
def Baa:=PLift.up (And.intro @Aqb (And.intro @Am6 (And.intro @Ark (And.intro @Qt (And.intro @Y5 (And.intro @Ve (And.intro @Pd (And.intro @Ap8 (And.intro @Hd.eq_1 (And.intro @Option.elim_some.{0,1} (And.intro @Option.elim_some.{1,0} (And.intro @Option.bind_some.{0,0} (And.intro @Option.map_some.{0,0} (And.intro @Option.isNone_none.{0} (And.intro @Option.isNone_some.{0} (And.intro @Option.isSome_some.{0} (And.intro @Option.getD_some.{0} (And.intro @Option.getD_none.{0} (And.intro @List.getElem?_cons_succ.{0} (And.intro @List.getElem?_cons_zero.{0} (And.intro @if_true.{1} (And.intro @if_false.{1} (And.intro @Bool.false_eq_true (@decide_true))))))))))))))))))))))))
def Ba5:=PLift.up (And.intro @decide_false (And.intro @decide_eq_true_eq (And.intro @true_and (And.intro @and_true (And.intro @and_self (And.intro @and_false (And.intro @false_and (And.intro @Bool.true_and (And.intro @Bool.and_true (And.intro @Bool.and_self (And.intro @Bool.and_false (And.intro @Bool.false_and (And.intro @Nat.add_zero (And.intro @Nat.zero_add (And.intro @Nat.mul_one (And.intro @Nat.zero_mul (And.intro @Bool.not_true (And.intro @Bool.not_false (And.intro @not_true_eq_false (And.intro @not_false_eq_true (And.intro @List.drop_zero.{0} (And.intro @List.drop_succ_cons.{0} (And.intro @List.take_succ_cons.{0} (@List.take_zero.{0}))))))))))))))))))))))))
def Ax3:=PLift.up (And.intro @List.length_cons.{0} (And.intro @List.length_nil.{0} (And.intro @List.map_cons.{0,0} (And.intro @List.map_nil.{0,0} (And.intro @List.set_cons_zero.{0} (And.intro @List.set_cons_succ.{0} (And.intro @List.getD_cons_zero.{0} (And.intro @List.getD_cons_succ.{0} (And.intro @List.all_cons.{0} (And.intro @List.all_nil.{0} (And.intro @Fc (And.intro @Cg.eq_1 (And.intro @Nat.zero_le (And.intro @Nat.lt_add_one (And.intro @Nat.le_refl (And.intro @Nat.lt_irrefl (And.intro @Nat.not_lt_zero (And.intro @Option.some.injEq.{0} (And.intro @Arf (And.intro @Aor (And.intro @Aq7 (And.intro @Aww (And.intro @Ays (@Ah9))))))))))))))))))))))))
def Ayt:=PLift.up (And.intro @Aea (And.intro @Ar3 (And.intro @Ayd (And.intro @Vo (And.intro @Am2 (And.intro @Anp (And.intro @Aq6 (And.intro @Aq5 (And.intro @Aq8 (And.intro @Al6 (And.intro @Aio (And.intro @Aqx (And.intro @Asm (And.intro @Ash (And.intro @Ari (And.intro @Alx (And.intro @Aw2 (And.intro @Bdo (And.intro @Ayc (And.intro @Ayp (And.intro @Axb (And.intro @Bda (And.intro @Bc7 (@Axz))))))))))))))))))))))))
def Aza:=PLift.up (And.intro @Ej (And.intro @Er (And.intro @Jc (And.intro @Hk (And.intro @Uq (And.intro @Ap4 (And.intro @Afv (And.intro @Ac6 (And.intro @W2 (And.intro @Abq (And.intro @Aln (And.intro @Ac4 (And.intro @Aqf (And.intro @Alf (And.intro @Aw9 (And.intro @Aar (And.intro @Ajh (And.intro @Abl (And.intro @Aa1 (And.intro @Alq (And.intro @Ax4 (And.intro @Th (And.intro @Ao7 (@Ap9))))))))))))))))))))))))
def Aw3:=PLift.up (And.intro @Aqr (And.intro @Aj3 (And.intro @Aa6 (And.intro @Aoj (And.intro @Aoe (And.intro @Apv (And.intro @Aod (And.intro @Anu (And.intro @Aoa (And.intro @Apj (And.intro @Ap0 (And.intro @Aol (And.intro @Am0 (And.intro @Aow (And.intro @An1 (And.intro @Anl (And.intro @Anb (And.intro @Alh (And.intro @Apz (And.intro @Alt (And.intro @Ae7 (And.intro @Abx (And.intro @Nk (@Yl))))))))))))))))))))))))
def Ax0:=PLift.up (And.intro @Ar9 (And.intro @Aq3 (And.intro @Ap1 (And.intro @Aj4 (And.intro @Aek (And.intro @Alo (And.intro @Akg (And.intro @Aqe (And.intro @Adc (And.intro @Amj (And.intro @Agf (And.intro @Acp (And.intro @Aou (And.intro @Am9 (And.intro @Aqd (And.intro @Aop (And.intro @Al3 (And.intro @Ayn (And.intro @Ame (And.intro @Al7 (And.intro @Akp (And.intro @Aju (And.intro @Af7 (@Aka))))))))))))))))))))))))
def Axn:=PLift.up (And.intro @Bdt (And.intro @Ase (And.intro @Am8 (And.intro @Axj (And.intro @Ayl (And.intro @Bbd (And.intro @Bbq (And.intro @Bap (@Bbj)))))))))
def Bch:=PLift.up (And.intro Bbc.down (And.intro Bci.down (And.intro Bai.down (And.intro Bc6.down (And.intro Az7.down (And.intro Az8.down (And.intro Bcg.down (And.intro Bcp.down (And.intro Baa.down (And.intro Ba5.down (And.intro Ax3.down (And.intro Ayt.down (And.intro Aza.down (And.intro Aw3.down (And.intro Ax0.down (Axn.down))))))))))))))))
theorem amL:type_of% Bch.down:=Bch.down
end AM
end
/- Worts in plain Lean, and how they lie in abstract values. -/
section
namespace AM.Wort
open Go AM
structure Rng where
 lo:Int
 hi:Int
 deriving DecidableEq
structure Ves where
 g:Rng
 d:Rng
 room:Int
 deriving DecidableEq
structure Stp where
 kind:Int
 frm:Int
 to:Int
 g:Rng
 deriving DecidableEq
structure Ee where
 vs:List Ves
 ss:List Stp
structure Tru where
 g:List Int
 d:List Int
 m:List Int
structure Liq where
 g:Int
 e:Int
 deriving DecidableEq
structure Rdg where
 v:Int
 g:Rng
 d:Rng
structure Sta where
 g:Int
 e:Int
 k:Int
 deriving DecidableEq
instance:Inhabited Rng:=⟨⟨0,0⟩⟩
instance:Inhabited Ves:=⟨⟨default,default,0⟩⟩
instance:Inhabited Stp:=⟨⟨0,0,0,default⟩⟩
instance:Inhabited Liq:=⟨⟨0,0⟩⟩
instance:Inhabited Rdg:=⟨⟨0,default,default⟩⟩
instance:Inhabited Sta:=⟨⟨0,0,0⟩⟩
abbrev J8 (n:Int):List PV:=[iv n]
abbrev H9 (r:Rng):List PV:=[iv r.lo,iv r.hi]
abbrev Aga (v:Ves):List PV:=[iv v.g.lo,iv v.g.hi,iv v.d.lo,iv v.d.hi,iv v.room]
abbrev Qa (s:Stp):List PV:=[iv s.kind,iv s.frm,iv s.to,iv s.g.lo,iv s.g.hi]
abbrev Ayy (r:Rdg):List PV:=[iv r.v,iv r.g.lo,iv r.g.hi,iv r.d.lo,iv r.d.hi]
abbrev Bb7 (s:Sta):List PV:=[iv s.g,iv s.e,iv s.k]
abbrev avR (r:Rng):AV:=.agg [i64 r.lo,i64 r.hi]
abbrev avV (v:Ves):AV:=.agg [i64 v.g.lo,i64 v.g.hi,i64 v.d.lo,i64 v.d.hi,i64 v.room]
abbrev avS (s:Stp):AV:=.agg [i64 s.kind,i64 s.frm,i64 s.to,i64 s.g.lo,i64 s.g.hi]
abbrev avL (l:Liq):AV:=.agg [i64 l.g,i64 l.e]
abbrev slV (l:List Ves):PV:=.sl (l.map Aga)
abbrev slS (l:List Stp):PV:=.sl (l.map Qa)
abbrev cB (b:Ee):List AV:=[.p (slV b.vs),.p (slS b.ss)]
abbrev avB (b:Ee):AV:=.agg (cB b)
abbrev cT (t:Tru):List AV:=[isl t.g,isl t.d,isl t.m]
abbrev avT (t:Tru):AV:=.agg (cT t)
abbrev C3:AV:=.p (.val (.slice none 0 0))
theorem Bl {l:List Int} {k:Nat} (h:k < l.length):(l.map J8).getD k []=J8 (l.getD k 0):=Cp _ _ _ h
theorem Bh {l:List Rng} {k:Nat} (h:k < l.length):(l.map H9).getD k []=H9 (l.getD k default):=Cp _ _ _ h
theorem Di {l:List Ves} {k:Nat} (h:k < l.length):(l.map Aga).getD k []=Aga (l.getD k default):=Cp _ _ _ h
theorem Xh {l:List Stp} {k:Nat} (h:k < l.length):(l.map Qa).getD k []=Qa (l.getD k default):=Cp _ _ _ h
def inB (n lo hi:Int):Bool:=decide (lo≤n)&&decide (n≤hi)
def Jn (r:Rng) (n:Int):Bool:=inB n r.lo r.hi
def Hx (r:Rng) (most:Int):Bool:=decide (0≤r.lo)&&(decide (r.lo≤r.hi)&&(decide (r.hi≤most)&&decide (r.hi - r.lo≤2)))
def Eu (v:Ves):Bool:=Hx v.g 60&&(Hx v.d 120&&inB v.room 0 60)
def F7 (n:Int) (s:Stp):Bool:=inB s.kind 0 2&&(inB s.frm 0 (n - 1)&&(inB s.to 0 (n - 1)&&((decide (s.frm=s.to) == !decide (s.kind=0))&&Hx s.g 60)))
def Fa (r:Rng):Int:=r.hi - r.lo+1
def Fz (b:Ee):List Rng:=b.vs.map (·.g)++b.vs.map (·.d)++b.ss.map (·.g)
def Mb:List Rng→Int→Int
 | [],n=>n
 | r :: l,n=>Mb l (n * Fa r)
def Pb (b:Ee):Int:=Mb (Fz b) 1
def B5 (b:Ee):Int:=
 if 4 < b.vs.length∨6 < b.ss.length then 3
 else if b.vs.length=0 then 1
 else if b.vs.all Eu=false then 1
 else if b.ss.all (F7 b.vs.length)=false then 1
 else if 2000 < Pb b then 3 else 0
def Qd (l:Liq):Int:=if l.g=0 then 0 else (2 * l.e+l.g) / (2 * l.g)
def wI (v:List Liq):List Int:=v.flatMap fun l=>[l.g,l.e]
def cW (v:List Liq):List AV:=(wI v).map i64
abbrev avW (v:List Liq):AV:=.agg (cW v)
abbrev v0:List Liq:=[⟨0,0⟩,⟨0,0⟩,⟨0,0⟩,⟨0,0⟩]
end AM.Wort
end
