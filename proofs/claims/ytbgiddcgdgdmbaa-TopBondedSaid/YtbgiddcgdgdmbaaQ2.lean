/- Lemmas for the proof: an abstract machine over the program's form in Lean, and the program's functions walked on it. -/
import Derived.Test.YtbgiddcgdgdmbaaQ1
import Derived.DeepKeys3
import Derived.Laws.Cover3
import Derived.ProofKit
import Derived.Deep.Slices
import Derived.ChangeStays
/- The abstract machine, part 32: the statement that ranges over a function; code behind it; contracts of functions that hold one. -/
section
namespace AM
open Go
def B8 (D:Nat):Deferred:={ target:=.collected D,args:=#[] }
def Anl (r:RB) (N B:Nat) (S:Nat→Prop) (θ:Nat→Loc) (M:Nat→Prop) (w:World) (a:Act) (st':St) (a':Act) (w':World):Prop:=
  ∃ θ' M',Av N B S θ' M' w' st' a'∧Bx (fun b=>B≤b∨S b) w w'∧(∀ n,n < r.b→¬ r.mv n→θ' n=θ n)∧(∀ b,b < B→M b→¬ S b→M' b) ∧
    ∃ L:List Nat,a'.defers=L.map B8++a.defers∧L.Nodup∧∀ D ∈ L,w'.heap[D]?=some (.deferred (some []))∧M' D∧B≤D∧∀ n o,st'.o n=some o→(θ' n).nil=false→(θ' n).blk≠D
def Kd (P:Program) (r:RB) (N:Nat) (c:Code) (st:St) (Q:AEx→St→Prop):Prop:=
  ∀ B S θ M w a,Av N B S θ M w st a→c.wpIn (Wd r.rd) 0 P (fun e a' w'=>∃ ae st',e=ae.toExit∧Q ae st'∧Anl r N B S θ M w a st' a' w') a w
section
variable {P:Program} {r:RB} {N B:Nat} {S:Nat→Prop} {θ:Nat→Loc} {M:Nat→Prop} {w:World} {st:St} {a:Act} {Q:AEx→St→Prop}
theorem Js {c:Code} (h:AWP P r N c st Q):Kd P r N c st Q:=fun B S θ M w a hs=>
  wpIn_mono (h B S θ M w a hs) fun _ _ _ ⟨ae,st',h1,h2,⟨θ',M',h3,h4,h5,h6⟩,h7⟩=>⟨ae,st',h1,h2,θ',M',h3,h4,h5,h6,[],by simpa using h7,.nil,fun D hD=>by cases hD⟩
theorem Kd.at {c:Code} (h:Kd P r N c st Q) {w':World} {a':Act} (hf:Anl r N B S θ M w a st a' w') :
    c.wpIn (Wd r.rd) 0 P (fun e a'' w''=>∃ ae st',e=ae.toExit∧Q ae st'∧Anl r N B S θ M w a st' a'' w'') a' w':=by
  obtain ⟨θ1,M1,hs,hk,ht,hm,L,hL,hnd,hD⟩:=hf
  have hs1:Av N w'.heap.size (fun b=>(B≤b∨S b)∧b ∉ L) θ1 M1 w' st a':=
    ⟨hs.size,hs.tm,hs.ob,fun n o hn hnil=>⟨(hs.lv n o hn hnil).1,.inr ⟨(hs.lv n o hn hnil).2,fun hmem=>(hD _ hmem).2.2.2 n o hn hnil rfl⟩⟩,hs.inj,Nat.le_refl _,hs.mlt,hs.cl⟩
  refine wpIn_mono (h _ _ θ1 M1 w' a' hs1) ?_
  rintro e a2 w2 ⟨ae,st2,rfl,hq,θ2,M2,hs2,hk2,ht2,hm2,L2,hL2,hnd2,hD2⟩
  have hlt:∀ D ∈ L,D < w'.heap.size:=fun D hd=>(Array.getElem?_eq_some_iff.1 (hD D hd).1).1
  refine ⟨ae,st2,rfl,hq,θ2,M2,⟨hs2.size,hs2.tm,hs2.ob,fun n o hn hnil=>?_,hs2.inj,Nat.le_trans hs.base hs2.base,hs2.mlt,hs2.cl⟩,?_,fun n hn hv=>(ht2 n hn hv).trans (ht n hn hv),fun b hb hM hn=>hm2 b (Nat.lt_of_lt_of_le hb hs.base) (hm b hb hM hn) (fun h=>h.1.elim (fun e=>by omega) hn),L2++L,by rw [hL2,hL]; simp,?_,?_⟩
  · obtain ⟨h1,h2⟩:=hs2.lv n o hn hnil
    exact ⟨h1,h2.elim (fun h=>.inl (Nat.le_trans hs.base h)) (fun h=>h.1)⟩
  · exact hk.trans (hk2.mono (M':=fun b=>B≤b∨S b) (fun b hb=>hb.elim (fun h=>.inl (Nat.le_trans hs.base h)) (fun h=>h.1))) (fun _ _ h=>h)
  · rw [List.nodup_append]
    exact ⟨hnd2,hnd,fun x hx y hy e=>by
      subst e
      have h1:=(hD2 x hx).2.2.1
      have h2:=hlt x hy
      omega⟩
  · intro D hd
    rcases List.mem_append.1 hd with hd | hd
    · obtain ⟨h1,h2,h3,h4⟩:=hD2 D hd
      exact ⟨h1,h2,Nat.le_trans hs.base h3,h4⟩
    · obtain ⟨h1,h2,h3,h4⟩:=hD D hd
      have hl:=hlt D hd
      refine ⟨(hk2.same D hl (fun e=>e.elim (fun e=>by omega) (fun e=>e.2 hd))).trans h1,hm2 D hl h2 (fun e=>e.2 hd),h3,fun n o hn hnil eb=>?_⟩
      obtain ⟨_,h6⟩:=hs2.lv n o hn hnil
      rcases h6 with h6 | h6
      · rw [eb] at h6; omega
      · rw [eb] at h6; exact h6.2 hd
theorem Aau {x y:Code} (h:Kd P r N x st (H7 (fun s=>Kd P r N y s Q) Q)):Kd P r N (.seq x y) st Q:=by
  intro B S θ M w a hs
  refine wpIn_seq (wpIn_mono (h B S θ M w a hs) fun e a' w' ⟨ae,st',h1,h2,h3⟩=>?_)
  subst h1
  cases ae with
  | normal=>exact Kd.at h2 h3
  | exit id=>exact ⟨.exit id,st',rfl,h2,h3⟩
  | ret=>exact ⟨.ret,st',rfl,h2,h3⟩
theorem Pc {x y:Code} (h:∀ K:St→Prop,(∀ s,Kd P r N y s Q→K s)→Kd P r N x st (H7 K Q)):Kd P r N (.seq x y) st Q:=Aau (h _ fun _ h=>h)
theorem Br {x y:Code} (h:∀ K:St→Prop,(∀ s,Kd P r N y s Q→K s)→AWP P r N x st (H7 K Q)):Kd P r N (.seq x y) st Q:=Aau (Js (h _ fun _ h=>h))
theorem Lq {id:Nat} {c:Code} (h:Kd P r N c st (Jl id Q)):Kd P r N (.block id c) st Q:=by
  intro B S θ M w a hs
  refine wpIn_block (wpIn_mono (h B S θ M w a hs) fun e a' w' ⟨ae,st',h1,h2,h3⟩=>?_)
  subst h1
  cases ae with
  | normal=>exact ⟨.normal,st',rfl,h2,h3⟩
  | ret=>exact ⟨.ret,st',rfl,h2,h3⟩
  | exit i=>
    simp only [Jl] at h2
    simp only [AEx.toExit,Exit.inBlock]
    split at h2
    · rename_i hi; rw [if_pos hi]; exact ⟨.normal,st',rfl,h2,h3⟩
    · rename_i hi; rw [if_neg hi]; exact ⟨.exit i,st',rfl,h2,h3⟩
theorem Av.defers (h:Av N B S θ M w st a) (d:List Deferred):Av N B S θ M w st { a with defers:=d }:=⟨h.size,h.tm,h.ob,h.lv,h.inj,h.base,h.mlt,h.cl⟩
theorem Av.allocM (h:Av N B S θ M w st a) (x:Obj):Av N B S θ (fun b=>M b∨b=w.heap.size) (w.alloc x) st a:=by
  have hs:∀ b,b < w.heap.size→(w.alloc x).heap[b]?=w.heap[b]?:=fun b hb=>by
    show (w.heap.push x)[b]?=_
    rw [Array.getElem?_push,if_neg (by omega)]
  have hM:∀ b,b < w.heap.size→(M b∨b=w.heap.size)→M b:=fun b hb hm=>hm.elim id (fun e=>by omega)
  have hsz:(w.alloc x).heap.size=w.heap.size+1:=by simp
  refine ⟨h.size,fun i=>(h.tm i).mono (fun b hb _=>hs b hb) hM,fun n o hn=>(h.ob n o hn).mono (fun hnil=>hs _ (h.mlt _ (h.lv n o hn hnil).1)) (fun y v hr _=>hr.mono (fun b hb _=>hs b hb) hM) (fun y v hp=>hp.mono (fun b hb _=>hs b hb) hM),
    fun n o hn hnil=>⟨.inl (h.lv n o hn hnil).1,(h.lv n o hn hnil).2⟩,h.inj,by rw [hsz]; exact Nat.le_succ_of_le h.base,fun b hb=>?_,h.cl⟩
  rw [hsz]
  rcases hb with hb | rfl
  · have:=h.mlt b hb; omega
  · omega
theorem Mg {bd:Nat} {mv:Nat→Prop} (hmv:∀ n,mv n→r.mv n∨r.b≤n) (hmb:¬ mv bd) {g:Operand} {ps:Array Tmp} {assign body:Code} {f:Nat} {fs cs:List AV} {tm:List (Nat × AV)} {R:AV→(Nat→Option AO)→Prop} (hro:r.rd=none) (hbd:∀ n,bd≤n→st.o n=none) (hb:r.b≤bd) (hg:ev st.t g=.fn (.func f) fs cs) (hcal:Bs P f=true)
    (htm:∀ i,T tm i=.undef∨T tm i=st.t i) (htm':∀ (j:Nat) (p:Nat × AV),tm[j]?=some p→p.2=.undef∨p.2=st.t p.1) (hts:∀ i,(T tm i).stays mv)
    (hcall:Eo P mv (bd+1) (ev st.t g) [.yld bd] (upd st.o bd (some (.loop ⟨N,ps.toList,assign,body,.ready,none⟩ tm))) R)
    (hR:∀ res os',R res os'→(Hp os').closed→∃ k',os' bd=some (.loop k' tm)∧k'.state≠.busy ∧
      (match k'.pending with
       | none=>Q .normal ⟨T tm,upd os' bd (some (.loop { k' with state:=.exhausted } tm))⟩
       | some .ret=>Q .ret ⟨T tm,upd os' bd (some (.loop { k' with state:=.exhausted } tm))⟩
       | some (.exit i)=>Q (.exit i) ⟨T tm,upd os' bd (some (.loop { k' with state:=.exhausted } tm))⟩
       | _=>False)):Kd P r N (.rangeFunc g ps assign body) st Q:=by
  intro B S θ M w a hs
  rw [hro]
  refine wpIn_rangeFunc (F:=Wd none) ?_
  intro fn _
  have hD:=hs.allocM (.deferred (some []))
  have hsz:(w.alloc (.deferred (some []))).heap.size=w.heap.size+1:=by simp
  generalize hwD:w.alloc (.deferred (some []))=wD at *
  have hDat:wD.heap[w.heap.size]?=some (.deferred (some [])):=by rw [← hwD]; exact World.alloc_heap_new w _
  have hkD:Bx (fun b=>B≤b∨S b) w wD:=by rw [← hwD]; exact Bx.alloc _ _ _
  obtain ⟨rec,hrec⟩:∃ rec:Loop,rec={ state:=.ready,pending:=none,fn,tmps:=a.tmps,params:=ps,assign,body,defers:=w.heap.size }:=⟨_,rfl⟩
  have hsz1:(wD.alloc (.loop rec)).heap.size=w.heap.size+2:=by simp [hsz]
  have hL:(wD.alloc (.loop rec)).heap[w.heap.size+1]?=some (.loop rec):=by have:=World.alloc_heap_new wD (.loop rec); rwa [hsz] at this
  have hk1:∀ b,b < wD.heap.size→(wD.alloc (.loop rec)).heap[b]?=wD.heap[b]?:=fun b hb=>by
    show (wD.heap.push _)[b]?=_
    rw [Array.getElem?_push,if_neg (by omega)]
  have hkL:Bx (fun b=>B≤b∨S b) wD (wD.alloc (.loop rec)):=Bx.alloc _ _ _
  have hfree:st.o bd=none:=hbd bd (Nat.le_refl _)
  have hclt:∀ (j:Nat) (p:Nat × AV),tm[j]?=some p→p.2.lives st.o:=fun j p hp=>by
    rcases htm' j p hp with e | e
    · rw [e]; exact AV.lives_undef _
    · rw [e]; exact hs.cl.1 _
  have hMm:∀ b,b < wD.heap.size→((M b∨b=w.heap.size)∨(false=false∧b=w.heap.size+1))→(M b∨b=w.heap.size):=fun b hb hm=>hm.elim id (fun e=>by omega)
  have hnew:=hD.new (d:=bd) hfree (w':=wD.alloc (.loop rec)) (l:=⟨w.heap.size+1,0,false⟩) (o:=.loop ⟨N,ps.toList,assign,body,.ready,none⟩ tm) (by simp) hk1 (fun _=>⟨by show _≤w.heap.size+1; omega,by show w.heap.size+1 < _; omega⟩)
    (by
      refine ⟨rfl,fn,a.tmps,w.heap.size,?_,hs.size,fun j p hp=>?_⟩
      · show (wD.alloc (.loop rec)).heap[w.heap.size+1]?=_
        rw [hL,hrec]
      · have hb:=hclt j p hp
        rcases htm' j p hp with e | e
        · rw [e]; exact .undef _
        · have h1:=hD.tm p.1
          rw [← e] at h1
          exact (h1.mono (fun b hb _=>hk1 b hb) hMm).rename (clean_of_free hfree hb))
    (by rw [AO.lives_loop]; exact fun j p hp=>AV.lives_mono (fun n hn=>by
      by_cases e:n=bd
      · subst e; simp
      · rw [Ao e]; exact hn) (hclt j p hp))
  generalize hw1:wD.alloc (.loop rec)=w1 at *
  have hnew:Av N B S (Fj θ bd ⟨w.heap.size+1,0,false⟩) (fun b=>(M b∨b=w.heap.size)∨(false=false∧b=w.heap.size+1)) w1 ⟨st.t,upd st.o bd (some (.loop ⟨N,ps.toList,assign,body,.ready,none⟩ tm))⟩ a:=hnew
  have hblk:∀ b,Ae0 ⟨st.t,upd st.o bd (some (.loop ⟨N,ps.toList,assign,body,.ready,none⟩ tm))⟩ (Fj θ bd ⟨w.heap.size+1,0,false⟩) b→b≠w.heap.size∧((M b∨b=w.heap.size)∨(false=false∧b=w.heap.size+1))∧(B≤b∨S b):=by
    rintro b ⟨n,o,hn,hnil,rfl⟩
    refine ⟨?_,hnew.lv n o hn hnil⟩
    by_cases e:n=bd
    · subst e; simp
    · have hn':st.o n=some o:=by have hn:upd st.o bd _ n=some o:=hn; rwa [Ao e] at hn
      rw [Bb e] at hnil ⊢
      have:=hs.mlt _ (hs.lv n o hn' hnil).1
      omega
  have hbd1:∀ n,bd+1≤n→upd st.o bd (some (.loop ⟨N,ps.toList,assign,body,.ready,none⟩ tm)) n=none:=fun n hn=>by rw [Ao (by omega)]; exact hbd n (by omega)
  have hgv:=A0 hnew g
  have hgv':Ar (Fj θ bd ⟨w.heap.size+1,0,false⟩) (fun b=>(M b∨b=w.heap.size)∨(false=false∧b=w.heap.size+1)) w1 (ev st.t g) (a.eval g):=hgv
  have hyl:Ar (Fj θ bd ⟨w.heap.size+1,0,false⟩) (fun b=>(M b∨b=w.heap.size)∨(false=false∧b=w.heap.size+1)) w1 (.yld bd) (.func (.yield (w.heap.size+1)) #[] #[]):=by
    have:=Ar.yld (θ:=Fj θ bd ⟨w.heap.size+1,0,false⟩) (M:=fun b=>(M b∨b=w.heap.size)∨(false=false∧b=w.heap.size+1)) (w:=w1) bd
    simpa using this
  obtain ⟨nx,hrun,hruns⟩:=hcall hbd1 _ _ _ w1 (a.eval g) #[.func (.yield (w.heap.size+1)) #[] #[]] hnew.toHp hgv' rfl (fun i x hx=>by
      cases i with
      | zero=>cases hx; exact hyl
      | succ i=>simp at hx) (Cr hnew g) (fun i x hx=>by
      cases i with
      | zero=>
        cases hx
        intro n hn
        simp only [AV.clean,bne_eq_false_iff_eq] at hn
        subst hn; simp
      | succ i=>simp at hx)
  generalize hgg:a.eval g=gv at *
  rw [hg] at hgv'
  cases hgv' with
  | fn _ _ _ vfs vcs g1 g2 g3 g4=>
    rw [Eh hcal] at hrun
    cases hrun
    have hinv:=Eh (w:=w1) (vfs:=vfs) (vcs:=vcs) (vs:=#[.func (.yield (w.heap.size+1)) #[] #[]]) hcal
    refine ⟨w.heap.size+1,[B8 w.heap.size],w1,{ target:=.fn (.func f) vcs,args:=vfs++#[.func (.yield (w.heap.size+1)) #[] #[]] },w1,f,vfs++#[.func (.yield (w.heap.size+1)) #[] #[]]++vcs,w1,?_,?_,fun _ _=>trivial,?_,fun h=>by simp [Wd] at h,?_⟩
    · have:=run_enterLoop_outer (P:=P) (w:=w) fn a.tmps ps assign body
      rw [hwD,← hrec,hw1] at this
      exact this
    · simp only [resolve,hgg]
      simp [Deferred.ofValue,Act.eval]
    · simpa [Deferred.ofValue] using hinv
    · refine Du (Calls.mono hruns ?_)
      rintro e w3 ⟨v,rfl,res,os',θ',M',hRr,hS3,hres,hlv,hk3,hth,hM3⟩
      obtain ⟨k',hk',hbusy,hQ⟩:=hR res os' hRr hS3.cl
      have hlt':∀ i,(T tm i).lives os':=fun i=>by
        rcases Ps tm i with e | ⟨j,e⟩
        · rw [e]; exact AV.lives_undef _
        · exact AO.lives_loop.1 (hS3.cl.2 bd _ hk') j _ e
      have hback:=hnew.back (fun b hb=>(hblk b hb).2) hS3 hk3 (t':=T tm) (fun i=>(htm i).imp id (fun e=>⟨e,fun n hn=>hth n (by
        have h1:=hnew.cl.1 i n hn
        cases Nat.lt_or_ge n (bd+1) with
        | inl h=>exact h
        | inr h=>
          have h1:(upd st.o bd (some (.loop ⟨N,ps.toList,assign,body,.ready,none⟩ tm)) n).isSome=true:=h1
          rw [hbd1 n h] at h1; cases h1) (fun hm=>by have:=hts i n hm; rw [e] at this; have hn:(st.t i).clean n=false:=hn; rw [this] at hn; cases hn)⟩)) hlt'
      have hback2:=hback.defers (B8 w.heap.size :: a.defers)
      obtain ⟨_,rec3,hrec3,q1,q2,_⟩:=hback.loopAt (nl:=bd) hk'
      obtain ⟨hput,hkput⟩:=hback2.loopPut (nl:=bd) hk' hrec3 .exhausted rec3.pending
      have ebd:(θ' bd).blk=w.heap.size+1:=by rw [hth bd (by omega) hmb]; simp
      rw [ebd] at hrec3 hput hkput
      refine ⟨rec3.pending,_,run_endLoop hrec3 (by rw [q1]; exact hbusy),?_⟩
      have hput':Av N B S θ' (fun b=>M' b∧(b < w1.heap.size→((M b∨b=w.heap.size)∨(false=false∧b=w.heap.size+1)))) (w3.putObj (w.heap.size+1) (.loop { rec3 with state:=.exhausted })) ⟨T tm,upd os' bd (some (.loop { k' with state:=.exhausted } tm))⟩ { a with defers:=B8 w.heap.size :: a.defers }:=by
        rw [show ({ k' with state:=LoopState.exhausted,pending:=rec3.pending }:D3)={ k' with state:=.exhausted } by rw [q2]] at hput
        exact hput
      have hfind:Anl r N B S θ M w a ⟨T tm,upd os' bd (some (.loop { k' with state:=.exhausted } tm))⟩ { a with defers:=B8 w.heap.size :: a.defers } (w3.putObj (w.heap.size+1) (.loop { rec3 with state:=.exhausted })):=by
        refine ⟨θ',_,hput',?_,fun n hn hv=>(hth n (by omega) (fun hm=>(hmv n hm).elim hv (fun h=>by omega))).trans (Bb (by omega)),fun b hb hm hn=>⟨hM3 b (by have:=hs.base; omega) (.inl (.inl hm)) (fun h=>(hblk b h).2.2.elim (fun e=>by omega) hn),fun _=>.inl (.inl hm)⟩,[w.heap.size],rfl,by simp,fun D hd=>?_⟩
        · refine hkD.trans (hkL.trans (Bx.trans (hk3.mono (M':=fun b=>B≤b∨S b) (fun b hb=>hb.elim (fun h=>.inl (by have:=hs.base; omega)) (fun h=>(hblk b h).2.2))) hkput (fun _ _ h=>h)) (fun _ _ h=>h)) (fun _ _ h=>h)
        · simp only [List.mem_singleton] at hd
          subst hd
          refine ⟨?_,⟨hM3 _ (by omega) (.inl (.inr rfl)) (fun h=>(hblk _ h).1 rfl),fun _=>.inl (.inr rfl)⟩,hs.base,fun n o hn hnil eb=>?_⟩
          · rw [World.putObj_heap_other (by omega),hk3.same _ (by omega) (fun e=>e.elim (fun e=>by omega) (fun e=>(hblk _ e).1 rfl)),hk1 _ (by omega)]
            exact hDat
          · have hn2:∃ o2,os' n=some o2:=by
              by_cases e:n=bd
              · subst e; exact ⟨_,hk'⟩
              · have hn:upd os' bd _ n=some o:=hn
                rw [Ao e] at hn; exact ⟨o,hn⟩
            obtain ⟨o2,hn2⟩:=hn2
            obtain ⟨_,h6⟩:=hS3.lv n o2 hn2 hnil
            rcases h6 with h6 | h6
            · rw [eb] at h6; omega
            · exact (hblk _ h6).1 eb
      rw [q2] at hfind ⊢
      cases hpd:k'.pending with
      | none=>rw [hpd] at hQ hfind; exact ⟨.normal,_,rfl,hQ,hfind⟩
      | some c=>
        rw [hpd] at hQ hfind
        cases c with
        | ret=>exact wpIn_ret ⟨.ret,_,rfl,hQ,hfind⟩
        | exit i=>exact wpIn_exit ⟨.exit i,_,rfl,hQ,hfind⟩
        | _=>exact hQ.elim
theorem H6 {g:Operand} {ps:Array Tmp} {assign body:Code} {bd f:Nat} {fs cs:List AV} {tm:List (Nat × AV)} {R:AV→(Nat→Option AO)→Prop} (hro:r.rd=none) (hbd:∀ n,bd≤n→st.o n=none) (hb:r.b≤bd) (hg:ev st.t g=.fn (.func f) fs cs) (hcal:Bs P f=true)
    (htm:∀ i,T tm i=.undef∨T tm i=st.t i) (htm':∀ (j:Nat) (p:Nat × AV),tm[j]?=some p→p.2=.undef∨p.2=st.t p.1)
    (hcall:Bm P (bd+1) (ev st.t g) [.yld bd] (upd st.o bd (some (.loop ⟨N,ps.toList,assign,body,.ready,none⟩ tm))) R)
    (hR:∀ res os',R res os'→(Hp os').closed→∃ k',os' bd=some (.loop k' tm)∧k'.state≠.busy ∧
      (match k'.pending with
       | none=>Q .normal ⟨T tm,upd os' bd (some (.loop { k' with state:=.exhausted } tm))⟩
       | some .ret=>Q .ret ⟨T tm,upd os' bd (some (.loop { k' with state:=.exhausted } tm))⟩
       | some (.exit i)=>Q (.exit i) ⟨T tm,upd os' bd (some (.loop { k' with state:=.exhausted } tm))⟩
       | _=>False)):Kd P r N (.rangeFunc g ps assign body) st Q:=
  Mg (mv:=fun _=>False) (fun _ h=>h.elim) (fun h=>h) hro hbd hb hg hcal htm htm' (fun _ _ h=>h.elim) hcall hR
end
section
variable {P:Program} {r:RB} {N B:Nat} {S:Nat→Prop} {θ:Nat→Loc} {M:Nat→Prop} {w:World} {st:St} {a:Act} {Q:AEx→St→Prop}
theorem Av.putD (h:Av N B S θ M w st a) {D:Nat} (hM:M D) (hap:∀ n o,st.o n=some o→(θ n).nil=false→(θ n).blk≠D) (x:Obj):Av N B S θ M (w.putObj D x) st a:=by
 have hk:∀ b,b≠D→(w.putObj D x).heap[b]?=w.heap[b]?:=fun b hb=>World.putObj_heap_other hb
 have hw:∀ b,b < w.heap.size→¬ M b→(w.putObj D x).heap[b]?=w.heap[b]?:=fun b _ hm=>hk b (fun e=>hm (e ▸ hM))
 exact ⟨h.size,fun i=>(h.tm i).mono hw (fun _ _ h=>h),fun n o hn=>(h.ob n o hn).mono (fun hnil=>hk _ (hap n o hn hnil)) (fun y v hr _=>hr.mono hw (fun _ _ h=>h)) (fun y v hp=>hp.mono hw (fun _ _ h=>h)),
  h.lv,h.inj,by simpa using h.base,by simpa using h.mlt,h.cl⟩
theorem L5 {fn:Func} {tmps:Array Value} {R:Ending→World→Prop} {v:Value}:∀ (L:List Nat) (w:World),L.Nodup→(∀ D ∈ L,w.heap[D]?=some (.deferred (some []))) →
  (results fn tmps).run P (L.foldl (fun w D=>w.putObj D (.deferred none)) w)=.ok v (L.foldl (fun w D=>w.putObj D (.deferred none)) w)→R (.returned v) (L.foldl (fun w D=>w.putObj D (.deferred none)) w) →
  LeavesInM (Wd none) 0 P fn tmps R (L.map B8) .returning w
 | [],w,_,_,h1,h2=>⟨v,h1,h2⟩
 | D :: L,w,hnd,hD,h1,h2=>by
  refine ⟨by simp,.inl ⟨D,_,rfl,run_takeDeferred (hD D (by simp)),?_⟩⟩
  rw [List.nodup_cons] at hnd
  refine L5 L _ hnd.2 (fun D' hD'=>?_) h1 h2
  have hne:D'≠D:=fun e=>hnd.1 (by rw [← e]; exact hD')
  rw [World.putObj_heap_other hne]
  exact hD D' (by simp [hD'])
theorem Av.putDs:∀ (L:List Nat) {w:World},Av N B S θ M w st a→(∀ D ∈ L,M D∧B≤D∧∀ n o,st.o n=some o→(θ n).nil=false→(θ n).blk≠D) →
  Av N B S θ M (L.foldl (fun w D=>w.putObj D (.deferred none)) w) st a∧Bx (fun b=>B≤b∨S b) w (L.foldl (fun w D=>w.putObj D (.deferred none)) w)
 | [],w,h,_=>⟨h,Bx.refl _ _⟩
 | D :: L,w,h,hD=>by
  obtain ⟨h1,h2,h3⟩:=hD D (by simp)
  obtain ⟨g1,g2⟩:=Av.putDs L (h.putD h1 h3 (.deferred none)) (fun D' hD'=>hD D' (by simp [hD']))
  refine ⟨g1,Bx.trans ⟨by simp,fun b _ hb=>World.putObj_heap_other (fun e=>hb (.inl (e ▸ h2))),rfl,rfl,rfl⟩ g2 (fun _ _ h=>h)⟩
theorem Aam {f:FuncId} {args:Array Value} {R:Ending→World→Prop} (h:CallsIn (Wd none) 0 P f args w R):Calls P f args w R:=(callsIn_wide (n:=0)).1 h
theorem Vn {mv:Nat→Prop} {f:FuncId} {fn:Func} {body:Code} {bd:Nat} {v q:List Nat} {fs args cs:List AV} {os:Nat→Option AO} {R:AV→(Nat→Option AO)→Prop} (hf:P.funcs[f]?=some fn) (hb:fn.body=some body) (hcal:Bs P f=true)
  (h:(Hp os).closed→(∀ n,bd≤n→os n=none)→Kd P ⟨⟨none,mv⟩,bd,v,q⟩ fn.ntmps body ⟨fun i=>(fs++args++cs).getD i .undef,os⟩ (Agd P fn.results.toList R)):Eo P mv bd (.fn (.func f) fs cs) args os R:=by
 intro hfree S θ M w vf vs hH hfv hsz hargs hlf hla
 cases hfv with
 | fn _ _ _ vfs vcs h1 h2 g1 g2=>
  refine ⟨_,Eh hcal,?_⟩
  obtain ⟨e1,e2⟩:=Rq h1 hsz h2 g1 hargs g2
  obtain ⟨l1,l2⟩:=F6 hlf
  have h0:=hH.start (fn:=fn) e1 e2 (Us l1 hla l2)
  refine Aam (callsIn_of_wp_marks hf hb trivial ?_ rfl)
  refine wpIn_mono (h hH.cl hfree _ S θ M w _ h0) ?_
  rintro e a' w' ⟨ae,st',rfl,hr,θ',M',hs',hk,ht,hm,L,hL,hnd,hD⟩
  obtain ⟨hs2,hk2⟩:=hs'.putDs L (fun D hd=>⟨(hD D hd).2.1,(hD D hd).2.2.1,(hD D hd).2.2.2⟩)
  have key:Zf P fn.results.toList R st'→LeavesInM (Wd none) 0 P fn a'.tmps (fun e w'=>∃ v,e=.returned v∧Wr mv S bd θ M w R v w') a'.defers .returning w':=by
   rintro ⟨res,os',hrr,hsub,hcl,hlv,hR⟩
   obtain ⟨v,hv,hvr⟩:=Ws hs2 hrr
   rw [hL]
   simp only [List.append_nil]
   exact L5 L w' hnd (fun D hd=>(hD D hd).1) hv ⟨v,rfl,res,os',θ',M',hR,hs2.hp hsub hcl,hvr,hlv,hk.trans hk2 (fun _ _ h=>h),ht,hm⟩
  cases ae with
  | normal=>exact key hr
  | ret=>exact key hr
  | exit i=>exact hr.elim
theorem Abz {st:St} (hs:Av N B S θ M w st a) {M0:Nat→Prop} (h0:∀ b,M0 b→b < B) (hS:∀ b,¬ S b):L4 st θ M0:=fun n o hn hnil hb=>by
 have h1:=(hs.lv n o hn hnil).2
 have h2:=h0 _ hb
 rcases h1 with h1 | h1
 ·omega
 ·exact hS _ h1
theorem Vp {f:FuncId} {fn:Func} {body:Code} {v q:List Nat} {args:List AV} {res:AV} (hf:P.funcs[f]?=some fn) (hb:fn.body=some body) (hargs:args.all AV.isP=true)
  (h:Kd P ⟨⟨none,fun _=>False⟩,0,v,q⟩ fn.ntmps body (St.init args) (fun e s=>(e=.normal∨e=.ret)∧(Ea P s fn.results.toList).map Fz=some res)) (hres:res.isP=true):Bf P f args res:=by
 refine ⟨hres,fun θ M w vs hM hsz hrel=>?_⟩
 refine Aam (callsIn_of_wp_marks hf hb trivial ?_ rfl)
 have hH:Av 0 w.heap.size (fun _=>False) θ M w (Hp fun _=>none) a0:=
  ⟨Nat.zero_le _,fun _=>.undef _,(fun n o hn=>by cases hn),(fun n o hn=>by cases hn),(fun n m hn=>by cases hn),Nat.le_refl _,hM,⟨fun _=>AV.lives_undef _,(fun m o hm=>by cases hm)⟩⟩
 have h0:=hH.start (fn:=fn) hsz hrel (fun i x hx=>Cy _ (List.all_eq_true.1 hargs x (List.mem_of_getElem? hx)))
 refine wpIn_mono (h _ _ θ M w _ h0) ?_
 rintro e a' w' ⟨ae,st',rfl,⟨hae,hr⟩,θ',M',hs',hk,ht,hm,L,hL,hnd,hD⟩
 obtain ⟨ys,hys,rfl⟩:=Option.map_eq_some_iff.1 hr
 obtain ⟨hs2,hk2⟩:=hs'.putDs L (fun D hd=>⟨(hD D hd).2.1,(hD D hd).2.2.1,(hD D hd).2.2.2⟩)
 have hoth:L4 st' θ' M:=Abz hs2 hM (fun _ h=>h)
 obtain ⟨us,hus,hul,hur⟩:=Mi (P:=P) hs2 (M2:=M) (fun b hb=>hm b (hM b hb) hb (fun h=>h)) hoth hys
 have hrun:∃ v,(results fn a'.tmps).run P (L.foldl (fun w D=>w.putObj D (.deferred none)) w')=.ok v (L.foldl (fun w D=>w.putObj D (.deferred none)) w')∧Ar θ' M (L.foldl (fun w D=>w.putObj D (.deferred none)) w') (Fz ys) v:=by
  have hus':(fn.results.mapM (J7 a'.tmps)).run P (L.foldl (fun w D=>w.putObj D (.deferred none)) w')=.ok us.toArray (L.foldl (fun w D=>w.putObj D (.deferred none)) w'):=by
   rw [Array.mapM_eq_mapM_toList,Sem.run_map,hus]; rfl
  rw [Pe]
  simp only [Sem.run_bind,hus',Result.andThen_ok,Sem.run_pure]
  match ys,us,hul with
  | [y],[u],_=>exact ⟨u,rfl,by simpa [Fz] using (hur 0 y (by simp)).1⟩
  | [],[],_=>exact ⟨.tuple #[],rfl,.tup [] #[] rfl (fun i x h=>by simp at h)⟩
  | y1 :: y2 :: ys',u1 :: u2 :: us',hul=>exact ⟨.tuple (u1 :: u2 :: us').toArray,rfl,.tup _ _ (by simpa using hul) (fun i x hx=>by simpa [Array.getD_eq_getD_getElem?] using (hur i x hx).1)⟩
 obtain ⟨v,hv,hvr⟩:=hrun
 have hpost:LeavesInM (Wd none) 0 P fn a'.tmps (fun e w'=>∃ v,e=.returned v∧Ar θ M w' (Fz ys) v∧Bx (fun b=>w.heap.size≤b) w w') a'.defers .returning w':=by
  rw [hL]
  simp only [List.append_nil]
  exact L5 L w' hnd (fun D hd=>(hD D hd).1) hv ⟨v,rfl,hvr.nameless θ hres,(hk.trans hk2 (fun _ _ h=>h)).mono (fun b hb=>hb.elim id False.elim)⟩
 rcases hae with rfl | rfl
 ·exact hpost
 ·exact hpost
end
def Aeu (P:Program) (f:FuncId) (args:List AV) (res:AV):Prop:=
 res.isP=true∧∀ (θ:Nat→Loc) (M:Nat→Prop) (w:World) (vs:Array Value),(∀ b,M b→b < w.heap.size)→vs.size=args.length→(∀ (i:Nat) (x:AV),args[i]?=some x→Ar θ M w x (vs.getD i undef)) →
  Calls P f vs w fun e w'=>∃ v,e=.returned v∧Ar θ (fun b=>b < w.heap.size) w' res v∧Bx (fun b=>w.heap.size≤b) w w'
def PV.isVal:PV→Bool
 | .val _=>true
 | _=>false
def Aeh (B:Nat) (os:Nat→Option AO):AV→Option AV
 | .p (.val (.slice none 0 0))=>some (.p (.sl []))
 | .p (.val v)=>some (.p (.val v))
 | .own n len=>match os n with
  | some (.arr _ es)=>if len≤es.length∧B≤n∧(es.all fun e=>e.all PV.isVal)=true then some (.p (.sl (es.take len))) else none
  | _=>none
 | _=>none
section
variable {P:Program} {r:RB} {N B:Nat} {S:Nat→Prop} {θ:Nat→Loc} {M M2:Nat→Prop} {w:World} {st:St} {a:Act} {Q:AEx→St→Prop}
theorem Zc {K:St→Prop} {o:Oper} {c:Call} {f:FuncId} (ho:o.op=.call c) (hd:∀ k,o.dst=some k→k < N) (hc:c.callee=.value (.func f)) (hf:Bs P f=true) {args:List AV} (hargs:D7 st.o (c.args.toList.map (ev st.t))=some args) {res:AV} (hcall:Aeu P f args res)
  (h:K (st.put o.dst res)):D1 P r N o st K:=by
 intro B S θ M w a Q hsr
 refine ⟨fun _ _=>trivial,?_⟩
 rw [Oper.semAt_eq _ _ _ (by rw [ho]; intro c h; cases h),Tu ho hc hf]
 refine ⟨fun h=>by simp [Wd] at h,Du ?_⟩
 obtain ⟨hl,hg⟩:=Lo hargs
 have hval:∀ (i:Nat) (z:Operand),c.args.toList[i]?=some z→(c.args.map a.eval).getD i undef=a.eval z:=fun i z hz=>by
  have:c.args[i]?=some z:=by simpa using hz
  simp [Array.getD_eq_getD_getElem?,this]
 refine Calls.mono (hcall.2 θ (Nu st θ M) w (c.args.map a.eval) (fun b hb=>hsr.mlt b hb.1) (by rw [hl]; simp) (fun i y hy=>?_)) ?_
 ·obtain ⟨x,hx,hv⟩:=hg i y hy
  simp only [List.getElem?_map,Option.map_eq_some_iff] at hx
  obtain ⟨z,hz,rfl⟩:=hx
  rw [hval i z hz]
  exact (Kn hsr (M2:=Nu st θ M) (fun b hb=>hb.1) (fun n o hn hnil hb=>hb.2 ⟨n,o,hn,hnil,rfl⟩) (A0 hsr z) hv).1
 ·rintro e w' ⟨v,rfl,hr,hk⟩
  have hsr':=hsr.ext hk
  exact ⟨_,h,⟨θ,M,hsr'.put hd (hr.mono (fun _ _ _=>rfl) (fun b _ hb=>hsr.mlt b hb)) (Cy _ hcall.1),⟨hk.size,fun b hb hn=>hk.same b hb (by omega),hk.os,hk.tape,hk.output⟩,fun _ _ _=>rfl,fun _ _ h _=>h⟩,by cases o.dst <;> rfl⟩
end
def Adg (P:Program) (f:FuncId) (args:List AV) (k:Nat) (es:List (List PV)):Prop:=
 ∀ (θ:Nat→Loc) (M:Nat→Prop) (w:World) (vs:Array Value),(∀ b,M b→b < w.heap.size)→vs.size=args.length→(∀ (i:Nat) (x:AV),args[i]?=some x→Ar θ M w x (vs.getD i undef)) →
  Calls P f vs w fun e w'=>∃ v l,e=.returned v∧Bx (fun b=>w.heap.size≤b) w w'∧(l.nil=false→w.heap.size≤l.blk∧l.blk < w'.heap.size)∧(∀ θ' M',Pv θ' M' w' l (.arr k es))∧(l.nil=true→v=.slice none 0 0)∧(l.nil=false→v=.slice (some ⟨l.blk,0,none⟩) es.length l.cap)
section
variable {P:Program} {r:RB} {N B:Nat} {S:Nat→Prop} {θ:Nat→Loc} {M:Nat→Prop} {w:World} {st:St} {a:Act} {Q:AEx→St→Prop}
theorem Z3 {K:St→Prop} {o:Oper} {c:Call} {f:FuncId} (ho:o.op=.call c) {d:Nat} (hdst:o.dst=some d) (hd:d < N) (hc:c.callee=.value (.func f)) (hf:Bs P f=true) {args:List AV} (hargs:D7 st.o (c.args.toList.map (ev st.t))=some args) {k:Nat} {es:List (List PV)} (hcall:Adg P f args k es)
  (hfree:st.o (r.b+d)=none) (h:K ((st.setO (r.b+d) (.arr k es)).put o.dst (.own (r.b+d) es.length))):D1 P r N o st K:=by
 intro B S θ M w a Q hsr
 refine ⟨fun _ _=>trivial,?_⟩
 rw [Oper.semAt_eq _ _ _ (by rw [ho]; intro c h; cases h),Tu ho hc hf]
 refine ⟨fun h=>by simp [Wd] at h,Du ?_⟩
 obtain ⟨hl,hg⟩:=Lo hargs
 have hval:∀ (i:Nat) (z:Operand),c.args.toList[i]?=some z→(c.args.map a.eval).getD i undef=a.eval z:=fun i z hz=>by
  have:c.args[i]?=some z:=by simpa using hz
  simp [Array.getD_eq_getD_getElem?,this]
 refine Calls.mono (hcall θ (Nu st θ M) w (c.args.map a.eval) (fun b hb=>hsr.mlt b hb.1) (by rw [hl]; simp) (fun i y hy=>?_)) ?_
 ·obtain ⟨x,hx,hv⟩:=hg i y hy
  simp only [List.getElem?_map,Option.map_eq_some_iff] at hx
  obtain ⟨z,hz,rfl⟩:=hx
  rw [hval i z hz]
  exact (Kn hsr (M2:=Nu st θ M) (fun b hb=>hb.1) (fun n o hn hnil hb=>hb.2 ⟨n,o,hn,hnil,rfl⟩) (A0 hsr z) hv).1
 ·rintro e w' ⟨v,l,rfl,hk,hblk,hob,hn1,hn2⟩
  have hnew:=hsr.new (d:=r.b+d) hfree (w':=w') (l:=l) (o:=.arr k es) hk.size (fun b hb=>hk.same b hb (by omega)) hblk (hob _ _) (AO.lives_arr _ _ _)
  have hvr:Ar (Fj θ (r.b+d) l) (fun b=>M b∨(l.nil=false∧b=l.blk)) w' (.own (r.b+d) es.length) v:=by
   obtain ⟨_,ho2⟩:=hob θ M
   rcases ho2 with ⟨h1,h2⟩ | ⟨h1,h2,_⟩
   ·rw [hn1 h1,h2]
    exact .ownNil _ (by simpa using h1)
   ·rw [hn2 h1]
    have:=Ar.own (θ:=Fj θ (r.b+d) l) (M:=fun b=>M b∨(l.nil=false∧b=l.blk)) (w:=w') (r.b+d) es.length (by simpa using h1) (by simpa using h2)
    simpa using this
  refine ⟨_,h,⟨_,_,hnew.put (d:=o.dst) (fun j hj=>by rw [hdst] at hj; cases hj; exact hd) hvr (fun n hn=>?_),⟨hk.size,fun b hb hn=>hk.same b hb (by omega),hk.os,hk.tape,hk.output⟩,fun n hn _=>Bb (by omega),fun b _ hb _=>.inl hb⟩,by cases o.dst <;> rfl⟩
  simp only [AV.clean,bne_eq_false_iff_eq] at hn
  subst hn
  show (upd st.o (r.b+d) (some (.arr k es)) (r.b+d)).isSome=true
  simp
end
def F0:Value→Bool
 | .agg cs=>cs.toList.all Value.oneCell'
 | .tuple _=>false
 | v=>v.oneCell'
def Kq (n:Nat) (g:List Int→Value):Obj→Prop:=fun o=>∃ es clock,o=.map es clock∧∀ e ∈ es.toList,∃ ks:List Int,ks.length=n∧ks.all inR=true∧e.key=.agg (ks.map (Value.int .i64)).toArray∧e.val=g ks
abbrev Mc (n:Nat) (g:List Int→Int):Obj→Prop:=Kq n fun ks=>.int .i64 (g ks)
def Jy (P:Program) (k:TypeId) (n:Nat):Prop:=WideMaps.KeyLaw P k∧∀ ks:List Int,ks.length=n→ks.all inR=true→∃ l,keyOf P k (.agg (ks.map (Value.int .i64)).toArray)=some l
theorem Z0 {a b:List Int} (h:(Value.agg (a.map (Value.int .i64)).toArray)=.agg (b.map (Value.int .i64)).toArray):a=b:=by
 simp only [Value.agg.injEq] at h
 have h:=congrArg Array.toList h
 simp only at h
 exact (List.map_inj_right (fun x y e=>by cases e; rfl)).1 h
section
variable {P:Program} {r:RB} {N B:Nat} {S:Nat→Prop} {θ:Nat→Loc} {M:Nat→Prop} {w:World} {st:St} {a:Act} {o:Oper} {K:St→Prop}
theorem Ms {cs:Array Value} (h:cs.toList.all Value.oneCell'=true):B4 (.agg cs)=.agg (cs.toList.map fun c=>.p (.val c)):=by
 unfold B4; simp only [h,if_true]
theorem Px {v:Value} (h:F0 v=true):(∃ cs,v=.agg cs∧cs.toList.all Value.oneCell'=true)∨(B4 v=.p (.val v)∧v.oneCell'=true):=by
 cases v <;> first | exact .inr ⟨rfl,h⟩ | exact .inl ⟨_,rfl,h⟩ | cases h
theorem Z2 {v:Value} (h:F0 v=true):Ar θ M w (B4 v) v:=by
 rcases Px h with ⟨cs,rfl,h⟩ | ⟨e,h1⟩
 ·rw [Ms h]
  refine .agg _ cs (by simp) (fun i hi=>?_) (fun i x hx=>?_)
  ·have hi:i < cs.size:=by simpa using hi
   have:=List.all_eq_true.1 h cs[i] (by simp)
   simpa [Array.getD_eq_getD_getElem?,hi] using this
  ·rw [List.getElem?_map,Option.map_eq_some_iff] at hx
   obtain ⟨c,hc,rfl⟩:=hx
   have h1:=List.all_eq_true.1 h c (List.mem_of_getElem? hc)
   have h2:cs.getD i undef=c:=by
    have:cs[i]?=some c:=by simpa using hc
    simp [Array.getD_eq_getD_getElem?,this]
   rw [h2]; exact .p _ _ (.val _ h1)
 ·rw [e]; exact .p _ _ (.val _ h1)
theorem E0 {v:Value} {os:Nat→Option AO} (h:F0 v=true):(B4 v).lives os:=by
 rcases Px h with ⟨cs,rfl,h⟩ | ⟨e,h1⟩
 ·rw [Ms h]
  refine AV.lives_agg.2 fun i x hx=>?_
  rw [List.getElem?_map,Option.map_eq_some_iff] at hx
  obtain ⟨c,_,rfl⟩:=hx
  exact AV.lives_p _ _
 ·rw [e]; exact AV.lives_p _ _
theorem Zo {u v:Value} (h:F0 u=true) (hr:Ar θ M w (B4 u) v):v=u:=by
 rcases Px h with ⟨cs,rfl,h⟩ | ⟨e,h1⟩
 ·rw [Ms h] at hr
  cases hr with
  | agg _ vs hs ho hx=>
   congr 1
   refine Array.ext (by simpa using hs) fun i h1 h2=>?_
   have:=hx i (.p (.val cs[i])) (by simp [h2])
   have e:vs.getD i undef=vs[i]:=by simp [Array.getD_eq_getD_getElem?,h1]
   rw [e] at this
   generalize vs[i]=y at this
   cases this with
   | p _ _ hp=>cases hp; rfl
 ·rw [e] at hr
  cases hr with
  | p _ _ hp=>cases hp; rfl
theorem Vr {t:TypeId} {dd n:Nat} {g:List Int→Value} (ho:o.op=.makeMap t none) (hd:o.dst=some dd) (hN:dd < N) (hfree:st.o (r.b+dd)=none)
  (h:K ((st.setO (r.b+dd) (.obj (Kq n g))).put o.dst (.mp (r.b+dd)))):D1 P r N o st K:=by
 intro B S θ M w a Q hs
 refine ⟨fun _ _=>trivial,?_⟩
 rw [Oper.semAt_eq _ _ _ (by rw [ho]; intro c h; cases h)]
 have hrun:(execOp a.eval o).run P w=.ok (.value (.map (some w.heap.size))) (w.alloc (.map #[] 0)):=by
  simp [execOp,ho,Instr.makeMap]
 rw [hrun]
 have hk:∀ b,b < w.heap.size→(w.alloc (.map #[] 0)).heap[b]?=w.heap[b]?:=fun b hb=>Kh w _ hb
 have hS:=hs.new (d:=r.b+dd) hfree (w':=w.alloc (.map #[] 0)) (l:=⟨w.heap.size,0,false⟩) (o:=.obj (Kq n g)) (by simp) hk (fun _=>⟨Nat.le_refl _,by simp⟩)
  ⟨rfl,_,Kz w _,#[],0,rfl,by simp⟩ (AO.lives_obj _ _)
 refine ⟨_,h,⟨_,_,hS.put (d:=o.dst) (fun k e=>by rw [hd] at e; cases e; exact hN) (x:=.mp (r.b+dd)) (v:=.map (some w.heap.size)) ?_ ?_,Bx.alloc _ _ _,fun n hn _=>Bb (by omega),fun b _ hb _=>.inl hb⟩,by cases o.dst <;> rfl⟩
 ·have:=Ar.mp (θ:=Fj θ (r.b+dd) ⟨w.heap.size,0,false⟩) (M:=fun b=>M b∨(false=false∧b=w.heap.size)) (w:=w.alloc (.map #[] 0)) (r.b+dd)
  simpa using this
 ·intro m hm
  simp only [AV.clean,bne_eq_false_iff_eq] at hm
  subst hm
  simp [St.setO]
theorem S6 {t k e:TypeId} (hk:(Ab P t).k=.mp k e):P.underlying t=some (.map k e):=by
 obtain ⟨i,u,hi,hu⟩:=Nl hk (by intro h; cases h)
 simp only [Ab,hi,hu] at hk
 rw [hu]
 cases u <;> simp at hk
 rw [hk.1,hk.2]
theorem Yr {x:AV} {v:Value} {m:Nat} (h:Ar θ M w x v) (hx:x=.mp m):v=.map (some (θ m).blk):=by subst hx; cases h; rfl
theorem Wg {k:TypeId} {n:Nat} {g:List Int→Value} (hk:Jy P k n) {ks:List Int} (hl:ks.length=n) (hr:ks.all inR=true) {es:Array MapEntry} (hes:∀ e ∈ es.toList,∃ ks:List Int,ks.length=n∧ks.all inR=true∧e.key=.agg (ks.map (Value.int .i64)).toArray∧e.val=g ks) (w:World) :
  ((Instr.findKey k (.agg (ks.map (Value.int .i64)).toArray) es.toList).run P w=.ok none w)∨∃ j e,(Instr.findKey k (.agg (ks.map (Value.int .i64)).toArray) es.toList).run P w=.ok (some (j,g ks)) w∧es.toList[j]?=some e∧e.key=.agg (ks.map (Value.int .i64)).toArray:=by
 obtain ⟨l,hkl⟩:=hk.2 ks hl hr
 rcases hk.1.find w hkl es.toList (fun e he=>by
  obtain ⟨ks',h1,h2,h3,_⟩:=hes e he
  rw [h3]; exact hk.2 ks' h1 h2) with ⟨h1,_⟩ | ⟨j,e,h1,h2,h3⟩
 ·exact .inl h1
 ·obtain ⟨ks',g1,g2,g3,g4⟩:=hes e (List.mem_of_getElem? h2)
  rw [g3] at h3
  have:=Z0 h3
  subst this
  rw [g4] at h1
  exact .inr ⟨j,e,h1,h2,g3⟩
theorem Ym {t k e:TypeId} {x i:Operand} {m n:Nat} {g:List Int→Value} {z:Value} {cs:List AV} {ks:List Int} (ho:o.op=.lookup t x i true) (hd:∀ k,o.dst=some k→k < N) (ht:(Ab P t).k=.mp k e) (hz:∀ w,(zeroValue e).run P w=.ok z w) (hzf:F0 z=true) (hgf:F0 (g ks)=true) (hk:Jy P k n)
  (hx:ev st.t x=.mp m) (hm:st.o m=some (.obj (Kq n g))) (hi:ev st.t i=.agg cs) (hks:Ck cs=some ks) (hl:ks.length=n) (hr:ks.all inR=true)
  (h1:K (st.put o.dst (.tup [B4 (g ks),.p (.val (.bool true))]))) (h2:K (st.put o.dst (.tup [B4 z,.p (.val (.bool false))]))):D1 P r N o st K:=by
 intro B S θ M w a Q hs
 refine ⟨fun _ _=>trivial,?_⟩
 rw [Oper.semAt_eq _ _ _ (by rw [ho]; intro c h; cases h)]
 have hxv:=Yr (A0 hs x) hx
 have hiv:=Gl (A0 hs i) hi hks
 obtain ⟨_,ob,hob,es,clock,rfl,hes⟩:=hs.ob m _ hm
 have hu:P.underlying t=some (.map k e):=S6 ht
 have hchk:∀ em,(Instr.checkKey em 10000 k (.agg (ks.map (Value.int .i64)).toArray)).run P w=.ok () w:=fun em=>by
  obtain ⟨l,hkl⟩:=hk.2 ks hl hr
  exact hk.1.check w em hkl
 have fin:∀ (v:Value) (b:Bool),F0 v=true→K (st.put o.dst (.tup [B4 v,.p (.val (.bool b))]))→∃ st',K st'∧Fin r N B S θ M w a st' (a.put o.dst (.tuple #[v,.bool b])) w:=by
  intro v b hv hK
  refine ⟨_,hK,(Adv.put hs hd ?_ ?_).toM,by cases o.dst <;> rfl⟩
  ·refine .tup _ _ rfl (fun i x hx=>?_)
   cases i with
   | zero=>cases hx; exact Z2 hv
   | succ i=>cases i with
    | zero=>cases hx; exact .p _ _ (.val _ rfl)
    | succ i=>simp at hx
  ·refine AV.lives_tup.2 fun i x hx=>?_
   cases i with
   | zero=>cases hx; exact E0 hv
   | succ i=>cases i with
    | zero=>cases hx; exact AV.lives_p _ _
    | succ i=>simp at hx
 rcases Wg hk hl hr hes w with hf | ⟨j,e',hf,_,_⟩
 ·have hrun:(execOp a.eval o).run P w=.ok (.value (.tuple #[z,.bool false])) w:=by
   simp [execOp,ho,hxv,hiv,Instr.lookup,Bt hu,getObj,Sem.run,hob,hchk,hf,hz]
  rw [hrun]
  exact fin _ false hzf h2
 ·have hrun:(execOp a.eval o).run P w=.ok (.value (.tuple #[g ks,.bool true])) w:=by
   simp [execOp,ho,hxv,hiv,Instr.lookup,Bt hu,getObj,Sem.run,hob,hchk,hf]
  rw [hrun]
  exact fin _ true hgf h1
theorem Sn {t k e:TypeId} {x i v:Operand} {m n:Nat} {g:List Int→Value} {cs:List AV} {ks:List Int} (ho:o.op=.mapUpdate t x i v) (hd:o.dst=none) (ht:(Ab P t).k=.mp k e) (hk:Jy P k n)
  (hx:ev st.t x=.mp m) (hm:st.o m=some (.obj (Kq n g))) (hi:ev st.t i=.agg cs) (hks:Ck cs=some ks) (hl:ks.length=n) (hr:ks.all inR=true) (hgf:F0 (g ks)=true) (hv:ev st.t v=B4 (g ks)) (h1:K st):D1 P r N o st K:=by
 intro B S θ M w a Q hs
 refine ⟨fun _ _=>trivial,?_⟩
 rw [Oper.semAt_eq _ _ _ (by rw [ho]; intro c h; cases h)]
 have hxv:=Yr (A0 hs x) hx
 have hiv:=Gl (A0 hs i) hi hks
 have hvv:a.eval v=g ks:=by have:=A0 hs v; rw [hv] at this; exact Zo hgf this
 obtain ⟨hnil,ob,hob,es,clock,rfl,hes⟩:=hs.ob m _ hm
 have hu:P.underlying t=some (.map k e):=S6 ht
 have hchk:∀ em,(Instr.checkKey em 10000 k (.agg (ks.map (Value.int .i64)).toArray)).run P w=.ok () w:=fun em=>by
  obtain ⟨l,hkl⟩:=hk.2 ks hl hr
  exact hk.1.check w em hkl
 have hlt:(θ m).blk < w.heap.size:=hs.mlt _ (hs.lv m _ hm hnil).1
 have fin:∀ es' clock',(∀ e ∈ es'.toList,∃ ks:List Int,ks.length=n∧ks.all inR=true∧e.key=.agg (ks.map (Value.int .i64)).toArray∧e.val=g ks)→∃ st',K st'∧Fin r N B S θ M w a st' (a.put o.dst undef) (w.putObj (θ m).blk (.map es' clock')):=by
  intro es' clock' hes'
  have hkk:∀ b,b≠(θ m).blk→(w.putObj (θ m).blk (.map es' clock')).heap[b]?=w.heap[b]?:=fun b hb=>World.putObj_heap_other hb
  have hS:=hs.upd (o':=.obj (Kq n g)) hm hnil (by simp) hkk ⟨hnil,_,World.putObj_heap_same hlt,es',clock',rfl,hes'⟩ (AO.lives_obj _ _)
  have e9:st.setO m (.obj (Kq n g))=st:=by
   unfold St.setO
   have:upd st.o m (some (.obj (Kq n g)))=st.o:=by
    funext q; unfold upd; split
    ·rename_i hq; rw [hq,hm]
    ·rfl
   rw [this]
  rw [e9] at hS
  rw [hd]
  exact ⟨st,h1,⟨θ,M,hS,Bx.of_upd hs hm hnil (by simp) hkk rfl rfl rfl,fun _ _ _=>rfl,fun _ _ h _=>h⟩,rfl⟩
 rcases Wg hk hl hr hes w with hf | ⟨j,e',hf,hj,hkey⟩
 ·have hrun:(execOp a.eval o).run P w=.ok .skip (w.putObj (θ m).blk (.map (es.push { key:=.agg (ks.map (Value.int .i64)).toArray,val:=g ks,born:=clock }) (clock+1))):=by
   simp [execOp,ho,hxv,hiv,hvv,Instr.mapUpdate,Bt hu,getObj,setObj,Sem.run,hob,hchk,hf,World.putObj]
  rw [hrun]
  refine fin _ _ fun e he=>?_
  simp only [Array.toList_push,List.mem_append,List.mem_singleton] at he
  rcases he with he | rfl
  ·exact hes e he
  ·exact ⟨ks,hl,hr,rfl,rfl⟩
 ·have hj':es[j]?=some e':=by simpa using hj
  obtain ⟨l,hkl⟩:=hk.2 ks hl hr
  have hst:=hk.1.stays w hkl
  have hrun:(execOp a.eval o).run P w=.ok .skip (w.putObj (θ m).blk (.map (es.modify j fun e=>{ e with key:=.agg (ks.map (Value.int .i64)).toArray,val:=g ks }) clock)):=by
   simp [execOp,ho,hxv,hiv,hvv,Instr.mapUpdate,Bt hu,getObj,setObj,Sem.run,hob,hchk,hf,World.putObj,hj',hkey,hst]
  rw [hrun]
  refine fin _ _ fun e he=>?_
  obtain ⟨q,hq⟩:=List.mem_iff_getElem?.1 he
  have hq:(es.modify j fun e=>{ e with key:=.agg (ks.map (Value.int .i64)).toArray,val:=g ks })[q]?=some e:=by rw [← Array.getElem?_toList]; exact hq
  rw [Array.getElem?_modify] at hq
  split at hq
  ·cases hes2:es[q]? with
   | none=>rw [hes2] at hq; cases hq
   | some e2=>rw [hes2] at hq; cases hq; exact ⟨ks,hl,hr,rfl,rfl⟩
  ·exact hes e (by rw [List.mem_iff_getElem?]; exact ⟨q,by simpa using hq⟩)
end
def AV.frz (n:Nat) (es:List (List PV)):AV→AV
 | .p x=>.p x
 | .ptr m off=>if m=n then .undef else .ptr m off
 | .eptr m k i off=>if m=n then .undef else .eptr m k i off
 | .own m len=>if m=n then (if len≤es.length then .p (.sl (es.take len)) else .undef) else .own m len
 | .csl m off k len=>if m=n then .undef else .csl m off k len
 | .fn f fs cs=>.fn f (frzL n es fs) (frzL n es cs)
 | .yld m=>if m=n then .undef else .yld m
 | .mp m=>if m=n then .undef else .mp m
 | .agg cs=>.agg (frzL n es cs)
 | .tup cs=>.tup (frzL n es cs)
 | .undef=>.undef
 where frzL (n:Nat) (es:List (List PV)):List AV→List AV
 | []=>[]
 | x :: r=>x.frz n es :: frzL n es r
theorem Kp (n:Nat) (es:List (List PV)) (l:List AV):AV.frz.frzL n es l=l.map (AV.frz n es):=by
 induction l with
 | nil=>rfl
 | cons x l ih=>simp only [AV.frz.frzL,List.map_cons,ih]
def AO.frz (n:Nat) (es:List (List PV)):AO→AO
 | .cells cs=>.cells (cs.map (AV.frz n es))
 | .arr k e=>.arr k e
 | .obj X=>.obj X
 | .it m X=>if m=n then .obj (fun o=>∃ b,X b o) else .it m X
 | .loop k tm=>.loop k (tm.map fun p=>(p.1,p.2.frz n es))
def St.frz (n:Nat) (es:List (List PV)) (s:St):St:=⟨fun i=>(s.t i).frz n es,fun m=>if m=n then none else (s.o m).map (AO.frz n es)⟩
section
variable {P:Program} {r:RB} {N B:Nat} {S:Nat→Prop} {θ:Nat→Loc} {M M2:Nat→Prop} {w:World} {st:St} {a:Act} {Q:AEx→St→Prop} {n:Nat} {es:List (List PV)}
theorem Qs {l:List AV} {i:Nat} {y:AV} (h:(AV.frz.frzL n es l)[i]?=some y):∃ z,l[i]?=some z∧y=z.frz n es:=by
 rw [Kp,List.getElem?_map,Option.map_eq_some_iff] at h
 obtain ⟨z,h1,h2⟩:=h
 exact ⟨z,h1,h2.symm⟩
theorem Mx {l:List AV}:(AV.frz.frzL n es l).length=l.length:=by rw [Kp,List.length_map]
theorem Aka {k:Nat} (hk:∀ (i:Nat) (e:List PV),es[i]?=some e→e.length=k) {l:Loc} {cur:Array Value} {e:TypeId} (hb:w.heap[l.blk]?=some (.cells cur e (0,0))) (hs:cur.size=l.cap * k) (hle:es.length≤l.cap) (hM:¬ M2 l.blk)
  (hx:∀ (i:Nat) (e:List PV) (j:Nat) (x:PV),es[i]?=some e→e[j]?=some x→Cp M2 w x (cur.getD (i * k+j) undef)) {len:Nat} (hl:len≤es.length):Cp M2 w (.sl (es.take len)) (.slice (some ⟨l.blk,0,none⟩) len l.cap):=by
 have hll:(es.take len).length=len:=by rw [List.length_take]; omega
 have:=Cp.sl (M:=M2) (w:=w) (es.take len) l.blk 0 l.cap k (fun i j=>cur.getD (i * k+j) undef) (fun i e hi=>by
  rw [List.getElem?_take] at hi
  split at hi
  ·exact hk i e hi
  ·cases hi) (by omega) (fun i e' j x hi hj=>by
  rw [List.getElem?_take] at hi
  split at hi
  ·refine ⟨hM,?_⟩
   have hj':j < k:=by rw [← hk i e' hi]; exact (List.getElem?_eq_some_iff.1 hj).1
   have hi':=(List.getElem?_eq_some_iff.1 hi).1
   have hlt:i * k+j < cur.size:=by
    rw [hs]
    have:(i+1) * k≤l.cap * k:=Nat.mul_le_mul_right _ (by omega)
    rw [Nat.add_mul] at this; omega
   rw [Nat.zero_add]
   exact C2 hb (by simp [hlt])
  ·cases hi) (fun i e' j x hi hj=>by
  rw [List.getElem?_take] at hi
  split at hi
  ·exact hx i e' j x hi hj
  ·cases hi)
 rw [hll] at this
 exact this
theorem Cp.less (h:∀ b,M2 b→M b) {x:PV} {v:Value} (hp:Cp M w x v):Cp M2 w x v:=hp.mono (fun _ _ _=>rfl) (fun b _ hb=>h b hb)
theorem Ar.frz (hm:∀ b,M2 b→M b) (hO:∀ len cap v,len≤es.length→v=.slice (some ⟨(θ n).blk,0,none⟩) len cap→(θ n).nil=false→cap=(θ n).cap→Cp M2 w (.sl (es.take len)) v) {x:AV} {v:Value} (h:Ar θ M w x v):Ar θ M2 w (x.frz n es) v:=by
 induction h with
 | p x v h=>exact .p x v (h.less hm)
 | ptr m off=>simp only [AV.frz]; split <;> first | exact .undef _ | exact .ptr _ _
 | eptr m k i off=>simp only [AV.frz]; split <;> first | exact .undef _ | exact .eptr _ _ _ _
 | own m len h0 h=>
  simp only [AV.frz]; split
  ·rename_i e; subst e
   split
   ·rename_i hle
    exact .p _ _ (hO len _ _ hle rfl h0 rfl)
   ·exact .undef _
  ·exact .own _ _ h0 h
 | ownNil m h0=>
  simp only [AV.frz]; split
  ·rw [if_pos (Nat.zero_le _),List.take_zero]; exact .p _ _ .nil
  ·exact .ownNil _ h0
 | csl m off k len cap h=>simp only [AV.frz]; split <;> first | exact .undef _ | exact .csl _ _ _ _ _ h
 | fn f fs cs vf vc hf hcs _ _ ih1 ih2=>
  refine .fn f _ _ vf vc (by rw [Mx]; exact hf) (by rw [Mx]; exact hcs) (fun i x hx=>?_) (fun i x hx=>?_)
  ·obtain ⟨z,h1,rfl⟩:=Qs hx; exact ih1 i z h1
  ·obtain ⟨z,h1,rfl⟩:=Qs hx; exact ih2 i z h1
 | yld m=>simp only [AV.frz]; split <;> first | exact .undef _ | exact .yld _
 | mp m=>simp only [AV.frz]; split <;> first | exact .undef _ | exact .mp _
 | agg cs vs hs ho _ ih=>
  refine .agg _ vs (by rw [Mx]; exact hs) (fun i hi=>ho i (by rwa [Mx] at hi)) (fun i x hx=>?_)
  obtain ⟨z,h1,rfl⟩:=Qs hx; exact ih i z h1
 | tup cs vs hs _ ih=>
  refine .tup _ vs (by rw [Mx]; exact hs) (fun i x hx=>?_)
  obtain ⟨z,h1,rfl⟩:=Qs hx; exact ih i z h1
 | undef v=>exact .undef v
mutual
theorem frz_clean:∀ (x:AV) (m:Nat),(x.frz n es).clean m=false→m≠n∧x.clean m=false
 | .p _,m,h=>by simp [AV.frz,AV.clean] at h
 | .ptr k off,m,h=>by
  simp only [AV.frz] at h; split at h
  ·simp [AV.clean] at h
  ·rename_i e; simp only [AV.clean,bne_eq_false_iff_eq] at h ⊢; subst h; exact ⟨e,rfl⟩
 | .eptr k _ _ _,m,h=>by
  simp only [AV.frz] at h; split at h
  ·simp [AV.clean] at h
  ·rename_i e; simp only [AV.clean,bne_eq_false_iff_eq] at h ⊢; subst h; exact ⟨e,rfl⟩
 | .own k len,m,h=>by
  simp only [AV.frz] at h; split at h
  ·split at h <;> simp [AV.clean] at h
  ·rename_i e; simp only [AV.clean,bne_eq_false_iff_eq] at h ⊢; subst h; exact ⟨e,rfl⟩
 | .csl k _ _ _,m,h=>by
  simp only [AV.frz] at h; split at h
  ·simp [AV.clean] at h
  ·rename_i e; simp only [AV.clean,bne_eq_false_iff_eq] at h ⊢; subst h; exact ⟨e,rfl⟩
 | .yld k,m,h=>by
  simp only [AV.frz] at h; split at h
  ·simp [AV.clean] at h
  ·rename_i e; simp only [AV.clean,bne_eq_false_iff_eq] at h ⊢; subst h; exact ⟨e,rfl⟩
 | .mp k,m,h=>by
  simp only [AV.frz] at h; split at h
  ·simp [AV.clean] at h
  ·rename_i e; simp only [AV.clean,bne_eq_false_iff_eq] at h ⊢; subst h; exact ⟨e,rfl⟩
 | .fn f fs cs,m,h=>by
  simp only [AV.frz,AV.clean,Bool.and_eq_false_iff] at h ⊢
  rcases h with h | h
  ·exact ⟨(Dp fs m h).1,.inl (Dp fs m h).2⟩
  ·exact ⟨(Dp cs m h).1,.inr (Dp cs m h).2⟩
 | .agg cs,m,h=>Dp cs m (by simpa [AV.frz,AV.clean] using h)
 | .tup cs,m,h=>Dp cs m (by simpa [AV.frz,AV.clean] using h)
 | .undef,m,h=>by simp [AV.frz,AV.clean] at h
theorem Dp:∀ (l:List AV) (m:Nat),AV.clean.cleanL m (AV.frz.frzL n es l)=false→m≠n∧AV.clean.cleanL m l=false
 | [],m,h=>by simp [AV.frz.frzL,AV.clean.cleanL] at h
 | x :: l,m,h=>by
  simp only [AV.frz.frzL,AV.clean.cleanL,Bool.and_eq_false_iff] at h ⊢
  rcases h with h | h
  ·exact ⟨(frz_clean x m h).1,.inl (frz_clean x m h).2⟩
  ·exact ⟨(Dp l m h).1,.inr (Dp l m h).2⟩
end
theorem AO.frz_clean:∀ (x:AO) (m:Nat),(x.frz n es).clean m=false→m≠n∧x.clean m=false
 | .cells cs,m,h=>by
  simp only [AO.frz,AO.clean] at h ⊢
  exact Dp cs m (by rw [Kp]; exact h)
 | .arr _ _,m,h=>by simp [AO.frz,AO.clean] at h
 | .obj _,m,h=>by simp [AO.frz,AO.clean] at h
 | .it k X,m,h=>by
  simp only [AO.frz] at h
  split at h
  ·simp [AO.clean] at h
  ·rename_i e
   simp only [AO.clean,bne_eq_false_iff_eq] at h ⊢
   exact ⟨fun e2=>e (h.trans e2),h⟩
 | .loop k tm,m,h=>by
  simp only [AO.frz,AO.clean,List.map_map] at h ⊢
  exact Dp (tm.map (·.2)) m (by rw [Kp,List.map_map]; exact h)
theorem Av.frz (h:Av N B S θ M w st a) {k:Nat} (hn:st.o n=some (.arr k es)):Av N B S θ (fun b=>M b∧((θ n).nil=false→b≠(θ n).blk)) w (st.frz n es) a:=by
 obtain ⟨hk,hob⟩:=h.ob n _ hn
 have hO:∀ len cap v,len≤es.length→v=.slice (some ⟨(θ n).blk,0,none⟩) len cap→(θ n).nil=false→cap=(θ n).cap→Cp (fun b=>M b∧((θ n).nil=false→b≠(θ n).blk)) w (.sl (es.take len)) v:=by
  rintro len cap v hle rfl h0 rfl
  rcases hob with ⟨h1,_⟩ | ⟨_,hc,cur,e,hb,hs1,ho1,hx1⟩
  ·rw [h1] at h0; cases h0
  ·exact Aka hk hb hs1 hc (fun hm=>hm.2 h0 rfl) (fun i e j x hi hj=>(hx1 i e j x hi hj).less (fun _ hb=>hb.1)) hle
 have hget:∀ m o,(st.frz n es).o m=some o→m≠n∧∃ o',st.o m=some o'∧o=o'.frz n es:=fun m o ho=>by
  simp only [St.frz] at ho
  split at ho
  ·cases ho
  ·rename_i e
   obtain ⟨o',h1,h2⟩:=Option.map_eq_some_iff.1 ho
   exact ⟨e,o',h1,h2.symm⟩
 have har:∀ {x:AV} {v:Value},Ar θ M w x v→Ar θ (fun b=>M b∧((θ n).nil=false→b≠(θ n).blk)) w (x.frz n es) v:=fun hx=>hx.frz (fun _ hb=>hb.1) hO
 refine ⟨h.size,fun i=>har (h.tm i),fun m o ho=>?_,fun m o ho hnil=>?_,fun m1 m2 h1 h2=>?_,h.base,fun b hb=>h.mlt b hb.1,⟨fun i m hm=>?_,fun m o ho m' hm'=>?_⟩⟩
 ·obtain ⟨_,o',h1,rfl⟩:=hget m o ho
  have:=h.ob m o' h1
  cases o' with
  | cells cs=>
   obtain ⟨g0,cur,e,g1,g2,g3,g4⟩:=this
   refine ⟨g0,cur,e,g1,by simpa using g2,fun i hi=>g3 i (by simpa using hi),fun i x hx=>?_⟩
   rw [List.getElem?_map,Option.map_eq_some_iff] at hx
   obtain ⟨z,hz,rfl⟩:=hx
   exact har (g4 i z hz)
  | arr k' es'=>
   obtain ⟨g0,g1⟩:=this
   exact ⟨g0,g1.imp id (fun ⟨q1,q2,cur,e,q3,q4,q5,q6⟩=>⟨q1,q2,cur,e,q3,q4,q5,fun i e j x hi hj=>(q6 i e j x hi hj).less (fun _ hb=>hb.1)⟩)⟩
  | obj X=>exact this
  | it k X=>
   obtain ⟨g0,ob,g1,g2⟩:=this
   simp only [AO.frz]
   split
   ·exact ⟨g0,ob,g1,_,g2⟩
   ·exact ⟨g0,ob,g1,g2⟩
  | loop k' tm=>
   obtain ⟨g0,fn,tmps,D,g1,g2,g3⟩:=this
   refine ⟨g0,fn,tmps,D,g1,g2,fun i p hp=>?_⟩
   rw [List.getElem?_map,Option.map_eq_some_iff] at hp
   obtain ⟨z,hz,rfl⟩:=hp
   exact har (g3 i z hz)
 ·obtain ⟨hne,o',h1,rfl⟩:=hget m o ho
  obtain ⟨g1,g2⟩:=h.lv m o' h1 hnil
  exact ⟨⟨g1,fun h0 e=>hne (h.inj m n (by rw [h1]; rfl) (by rw [hn]; rfl) hnil h0 e)⟩,g2⟩
 ·obtain ⟨o1,g1⟩:=Option.isSome_iff_exists.1 h1
  obtain ⟨o2,g2⟩:=Option.isSome_iff_exists.1 h2
  obtain ⟨_,o1',q1,_⟩:=hget m1 o1 g1
  obtain ⟨_,o2',q2,_⟩:=hget m2 o2 g2
  exact h.inj m1 m2 (by rw [q1]; rfl) (by rw [q2]; rfl)
 ·obtain ⟨h1,h2⟩:=frz_clean _ m hm
  have:=h.cl.1 i m h2
  show (if m=n then none else (st.o m).map (AO.frz n es)).isSome=true
  rw [if_neg h1]; simpa using this
 ·obtain ⟨_,o',h1,rfl⟩:=hget m o ho
  obtain ⟨h3,h4⟩:=AO.frz_clean _ m' hm'
  have:=h.cl.2 m o' h1 m' h4
  show (if m'=n then none else (st.o m').map (AO.frz n es)).isSome=true
  rw [if_neg h3]; simpa using this
theorem Akm (h:Av N B S θ M w st a) {k:Nat} (hn:st.o n=some (.arr k es)):∀ b,b < B→M b→¬ S b→(M b∧((θ n).nil=false→b≠(θ n).blk)):=fun b hb hm hs=>⟨hm,fun h0 e=>by
 subst e
 exact (h.lv n _ hn h0).2.elim (fun h=>by omega) hs⟩
theorem Fin.frz (h:Av N B S θ M w st a) {k:Nat} (hn:st.o n=some (.arr k es)) {st':St} {a':Act} {w':World} (hf:Fin r N B S θ (fun b=>M b∧((θ n).nil=false→b≠(θ n).blk)) w a st' a' w'):Fin r N B S θ M w a st' a' w':=
 hf.trans (Bx.refl _ _) (fun _ _ _=>rfl) (Akm h hn) rfl
theorem Ana {c:Code} {k:Nat} (n:Nat) {es:List (List PV)} (hn:st.o n=some (.arr k es)) (h:AWP P r N c (st.frz n es) Q):AWP P r N c st Q:=fun B S θ _ w a hs=>
 wpIn_mono (h B S θ _ w a (hs.frz hn)) fun _ _ _ ⟨ae,st',h1,h2,h3⟩=>⟨ae,st',h1,h2,h3.frz hs hn⟩
theorem Ae5 {o:Oper} {K:St→Prop} {k:Nat} (n:Nat) {es:List (List PV)} (hn:st.o n=some (.arr k es)) (h:D1 P r N o (st.frz n es) K):D1 P r N o st K:=fun B S θ _ w a Q hs=>
 Oper.wpIn_mono (fun _ _ ⟨st',h1,h2⟩=>⟨st',h1,h2.frz hs hn⟩) (h B S θ _ w a Q (hs.frz hn))
def Ail (n:Nat) (es:List (List PV)):List (Nat × AV)→List (Nat × AV)
 | []=>[]
 | (j,x) :: l=>(j,x.frz n es) :: Ail n es l
theorem Aqy {l:List (Nat × AV)}:(fun i=>(T l i).frz n es)=T (Ail n es l):=by
 funext i
 induction l with
 | nil=>rfl
 | cons p l ih=>
  obtain ⟨j,x⟩:=p
  simp only [T,Ail]
  split
  ·rfl
  ·exact ih
mutual
theorem frz_id:∀ (x:AV),x.clean n=true→x.frz n es=x
 | .p _,_=>rfl
 | .ptr m _,h=>by simp only [AV.clean,bne_iff_ne] at h; simp only [AV.frz]; rw [if_neg h]
 | .eptr m _ _ _,h=>by simp only [AV.clean,bne_iff_ne] at h; simp only [AV.frz]; rw [if_neg h]
 | .own m _,h=>by simp only [AV.clean,bne_iff_ne] at h; simp only [AV.frz]; rw [if_neg h]
 | .csl m _ _ _,h=>by simp only [AV.clean,bne_iff_ne] at h; simp only [AV.frz]; rw [if_neg h]
 | .yld m,h=>by simp only [AV.clean,bne_iff_ne] at h; simp only [AV.frz]; rw [if_neg h]
 | .mp m,h=>by simp only [AV.clean,bne_iff_ne] at h; simp only [AV.frz]; rw [if_neg h]
 | .fn f fs cs,h=>by
  simp only [AV.clean,Bool.and_eq_true] at h
  simp only [AV.frz]; rw [Np fs h.1,Np cs h.2]
 | .agg cs,h=>by simp only [AV.frz]; rw [Np cs (by simpa [AV.clean] using h)]
 | .tup cs,h=>by simp only [AV.frz]; rw [Np cs (by simpa [AV.clean] using h)]
 | .undef,_=>rfl
theorem Np:∀ (l:List AV),AV.clean.cleanL n l=true→AV.frz.frzL n es l=l
 | [],_=>rfl
 | x :: l,h=>by
  simp only [AV.clean.cleanL,Bool.and_eq_true] at h
  simp only [AV.frz.frzL]; rw [frz_id x h.1,Np l h.2]
end
theorem AO.frz_id:∀ (x:AO),x.clean n=true→x.frz n es=x
 | .cells cs,h=>by simp only [AO.frz]; rw [← Kp,Np cs (by simpa [AO.clean] using h)]
 | .arr _ _,_=>rfl
 | .obj _,_=>rfl
 | .it k X,h=>by
  simp only [AO.clean,bne_iff_ne] at h
  simp only [AO.frz,if_neg h]
 | .loop k tm,h=>by
  have h:AV.clean.cleanL n (tm.map (·.2))=true:=h
  rw [B0] at h
  simp only [AO.frz]
  congr 1
  refine List.ext_getElem? fun i=>?_
  rw [List.getElem?_map]
  cases e:tm[i]? with
  | none=>rfl
  | some p=>rw [Option.map_some,AM.frz_id p.2 (h i p.2 (by rw [List.getElem?_map,e]; rfl))]
end
def P3 (ks:List Int):Value:=.agg (ks.map (Value.int .i64)).toArray
def Aer (ks:List Int):List (List Int × Value)→Bool
 | []=>true
 | p :: r=>!decide (p.1=ks)&&Aer ks r
def Yu (n:Nat):List (List Int × Value)→Bool
 | []=>true
 | p :: r=>(p.1.length == n)&&(p.1.all inR&&(Aer p.1 r&&Yu n r))
def J1 (ks:List Int):List (List Int × Value)→Option Value
 | []=>none
 | p :: r=>if p.1=ks then some p.2 else J1 ks r
def Vx (n:Nat) (kv:List (List Int × Value)):Obj→Prop:=fun o=>∃ es clock,o=.map es clock∧Yu n kv=true∧es.toList.map (fun e=>(e.key,e.val))=kv.map (fun p=>(P3 p.1,p.2))
theorem Wn {ks:List Int}:∀ {kv:List (List Int × Value)},Aer ks kv=true→∀ p ∈ kv,p.1≠ks
 | [],_,p,hp=>by cases hp
 | q :: r,h,p,hp=>by
  simp only [Aer,Bool.and_eq_true,Bool.not_eq_true',decide_eq_false_iff_not] at h
  rcases List.mem_cons.1 hp with rfl | hp
  ·exact h.1
  ·exact Wn h.2 p hp
theorem Tf {n:Nat}:∀ {kv:List (List Int × Value)},Yu n kv=true→∀ p ∈ kv,p.1.length=n∧p.1.all inR=true
 | [],_,p,hp=>by cases hp
 | q :: r,h,p,hp=>by
  simp only [Yu,Bool.and_eq_true,beq_iff_eq] at h
  rcases List.mem_cons.1 hp with rfl | hp
  ·exact ⟨h.1,h.2.1⟩
  ·exact Tf h.2.2.2 p hp
theorem Wv {n:Nat}:∀ {kv:List (List Int × Value)},Yu n kv=true→∀ p ∈ kv,J1 p.1 kv=some p.2
 | [],_,p,hp=>by cases hp
 | q :: r,h,p,hp=>by
  simp only [Yu,Bool.and_eq_true,beq_iff_eq] at h
  rcases List.mem_cons.1 hp with rfl | hp
  ·simp [J1]
  ·have:=Wn h.2.2.1 p hp
   simp only [J1]
   rw [if_neg (fun e=>this e.symm)]
   exact Wv h.2.2.2 p hp
theorem Uv {ks:List Int}:∀ {kv:List (List Int × Value)},(∀ p ∈ kv,p.1≠ks)→J1 ks kv=none
 | [],_=>rfl
 | q :: r,h=>by
  simp only [J1]
  rw [if_neg (h q (by simp))]
  exact Uv fun p hp=>h p (by simp [hp])
section
variable {P:Program} {r:RB} {N B:Nat} {S:Nat→Prop} {θ:Nat→Loc} {M:Nat→Prop} {w:World} {st:St} {a:Act} {o:Oper} {K:St→Prop}
theorem Xd {k:TypeId} {n:Nat} {kv:List (List Int × Value)} (hk:Jy P k n) {ks:List Int} (hl:ks.length=n) (hr:ks.all inR=true) {es:Array MapEntry} (hok:Yu n kv=true) (hes:es.toList.map (fun e=>(e.key,e.val))=kv.map (fun p=>(P3 p.1,p.2))) (w:World) :
  (J1 ks kv=none∧(Instr.findKey k (P3 ks) es.toList).run P w=.ok none w)∨∃ j v,J1 ks kv=some v∧(Instr.findKey k (P3 ks) es.toList).run P w=.ok (some (j,v)) w:=by
 have mem:∀ e ∈ es.toList,∃ p ∈ kv,e.key=P3 p.1∧e.val=p.2:=fun e he=>by
  have:(e.key,e.val) ∈ kv.map (fun p=>(P3 p.1,p.2)):=by rw [← hes]; exact List.mem_map_of_mem he
  obtain ⟨p,hp,h⟩:=List.mem_map.1 this
  exact ⟨p,hp,(congrArg Prod.fst h).symm,(congrArg Prod.snd h).symm⟩
 have mem2:∀ p ∈ kv,∃ e ∈ es.toList,e.key=P3 p.1:=fun p hp=>by
  have:(P3 p.1,p.2) ∈ es.toList.map (fun e=>(e.key,e.val)):=by rw [hes]; exact List.mem_map_of_mem (f:=fun p=>(P3 p.1,p.2)) hp
  obtain ⟨e,he,h⟩:=List.mem_map.1 this
  exact ⟨e,he,congrArg Prod.fst h⟩
 obtain ⟨l,hkl⟩:=hk.2 ks hl hr
 rcases hk.1.find w hkl es.toList (fun e he=>by
  obtain ⟨p,hp,h1,_⟩:=mem e he
  rw [h1]; exact hk.2 p.1 (Tf hok p hp).1 (Tf hok p hp).2) with ⟨h1,h2⟩ | ⟨j,e,h1,h2,h3⟩
 ·refine .inl ⟨Uv fun p hp e=>?_,h1⟩
  obtain ⟨x,hx,hx2⟩:=mem2 p hp
  exact h2 x hx (by rw [hx2,e]; rfl)
 ·obtain ⟨p,hp,g1,g2⟩:=mem e (List.mem_of_getElem? h2)
  rw [g1] at h3
  have:=Z0 h3
  refine .inr ⟨j,p.2,by rw [← this]; exact Wv hok p hp,?_⟩
  rw [← g2]; exact h1
theorem T8 {t:TypeId} {dd n:Nat} (ho:o.op=.makeMap t none) (hd:o.dst=some dd) (hN:dd < N) (hfree:st.o (r.b+dd)=none)
  (h:K ((st.setO (r.b+dd) (.obj (Vx n []))).put o.dst (.mp (r.b+dd)))):D1 P r N o st K:=by
 intro B S θ M w a Q hs
 refine ⟨fun _ _=>trivial,?_⟩
 rw [Oper.semAt_eq _ _ _ (by rw [ho]; intro c h; cases h)]
 have hrun:(execOp a.eval o).run P w=.ok (.value (.map (some w.heap.size))) (w.alloc (.map #[] 0)):=by
  simp [execOp,ho,Instr.makeMap]
 rw [hrun]
 have hk:∀ b,b < w.heap.size→(w.alloc (.map #[] 0)).heap[b]?=w.heap[b]?:=fun b hb=>Kh w _ hb
 have hS:=hs.new (d:=r.b+dd) hfree (w':=w.alloc (.map #[] 0)) (l:=⟨w.heap.size,0,false⟩) (o:=.obj (Vx n [])) (by simp) hk (fun _=>⟨Nat.le_refl _,by simp⟩)
  ⟨rfl,_,Kz w _,#[],0,rfl,rfl,by simp⟩ (AO.lives_obj _ _)
 refine ⟨_,h,⟨_,_,hS.put (d:=o.dst) (fun k e=>by rw [hd] at e; cases e; exact hN) (x:=.mp (r.b+dd)) (v:=.map (some w.heap.size)) ?_ ?_,Bx.alloc _ _ _,fun n hn _=>Bb (by omega),fun b _ hb _=>.inl hb⟩,by cases o.dst <;> rfl⟩
 ·have:=Ar.mp (θ:=Fj θ (r.b+dd) ⟨w.heap.size,0,false⟩) (M:=fun b=>M b∨(false=false∧b=w.heap.size)) (w:=w.alloc (.map #[] 0)) (r.b+dd)
  simpa using this
 ·intro m hm
  simp only [AV.clean,bne_eq_false_iff_eq] at hm
  subst hm
  simp [St.setO]
theorem N2 {t k e:TypeId} {x i:Operand} {m n:Nat} {kv:List (List Int × Value)} {z:Value} {cs:List AV} {ks:List Int} (ho:o.op=.lookup t x i true) (hd:∀ k,o.dst=some k→k < N) (ht:(Ab P t).k=.mp k e) (hz:∀ w,(zeroValue e).run P w=.ok z w) (hzf:F0 z=true) (hk:Jy P k n)
  (hx:ev st.t x=.mp m) (hm:st.o m=some (.obj (Vx n kv))) (hi:ev st.t i=.agg cs) (hks:Ck cs=some ks) (hl:ks.length=n) (hr:ks.all inR=true)
  (h1:∀ v,J1 ks kv=some v→F0 v=true∧K (st.put o.dst (.tup [B4 v,.p (.val (.bool true))]))) (h2:J1 ks kv=none→K (st.put o.dst (.tup [B4 z,.p (.val (.bool false))]))):D1 P r N o st K:=by
 intro B S θ M w a Q hs
 refine ⟨fun _ _=>trivial,?_⟩
 rw [Oper.semAt_eq _ _ _ (by rw [ho]; intro c h; cases h)]
 have hxv:=Yr (A0 hs x) hx
 have hiv:=Gl (A0 hs i) hi hks
 obtain ⟨_,ob,hob,es,clock,rfl,hok,hes⟩:=hs.ob m _ hm
 have hu:P.underlying t=some (.map k e):=S6 ht
 have hchk:∀ em,(Instr.checkKey em 10000 k (.agg (ks.map (Value.int .i64)).toArray)).run P w=.ok () w:=fun em=>by
  obtain ⟨l,hkl⟩:=hk.2 ks hl hr
  exact hk.1.check w em hkl
 have fin:∀ (v:Value) (b:Bool),F0 v=true→K (st.put o.dst (.tup [B4 v,.p (.val (.bool b))]))→∃ st',K st'∧Fin r N B S θ M w a st' (a.put o.dst (.tuple #[v,.bool b])) w:=by
  intro v b hv hK
  refine ⟨_,hK,(Adv.put hs hd ?_ ?_).toM,by cases o.dst <;> rfl⟩
  ·refine .tup _ _ rfl (fun i x hx=>?_)
   cases i with
   | zero=>cases hx; exact Z2 hv
   | succ i=>cases i with
    | zero=>cases hx; exact .p _ _ (.val _ rfl)
    | succ i=>simp at hx
  ·refine AV.lives_tup.2 fun i x hx=>?_
   cases i with
   | zero=>cases hx; exact E0 hv
   | succ i=>cases i with
    | zero=>cases hx; exact AV.lives_p _ _
    | succ i=>simp at hx
 rcases Xd hk hl hr hok hes w with ⟨hn,hf⟩ | ⟨j,v,hv,hf⟩
 ·have hrun:(execOp a.eval o).run P w=.ok (.value (.tuple #[z,.bool false])) w:=by
   unfold P3 at hf
   simp [execOp,ho,hxv,hiv,Instr.lookup,Bt hu,getObj,Sem.run,hob,hchk,hf,hz]
  rw [hrun]
  exact fin _ false hzf (h2 hn)
 ·have hrun:(execOp a.eval o).run P w=.ok (.value (.tuple #[v,.bool true])) w:=by
   unfold P3 at hf
   simp [execOp,ho,hxv,hiv,Instr.lookup,Bt hu,getObj,Sem.run,hob,hchk,hf]
  rw [hrun]
  exact fin _ true (h1 v hv).1 (h1 v hv).2
theorem Rc {t k e:TypeId} {x i v:Operand} {m n:Nat} {kv:List (List Int × Value)} {y:Value} {cs:List AV} {ks:List Int} (ho:o.op=.mapUpdate t x i v) (hd:o.dst=none) (ht:(Ab P t).k=.mp k e) (hk:Jy P k n)
  (hx:ev st.t x=.mp m) (hm:st.o m=some (.obj (Vx n kv))) (hi:ev st.t i=.agg cs) (hks:Ck cs=some ks) (hl:ks.length=n) (hr:ks.all inR=true) (hnone:J1 ks kv=none) (hok':Yu n (kv++[(ks,y)])=true) (hgf:F0 y=true) (hv:ev st.t v=B4 y)
  (h1:K (st.setO m (.obj (Vx n (kv++[(ks,y)]))))):D1 P r N o st K:=by
 intro B S θ M w a Q hs
 refine ⟨fun _ _=>trivial,?_⟩
 rw [Oper.semAt_eq _ _ _ (by rw [ho]; intro c h; cases h)]
 have hxv:=Yr (A0 hs x) hx
 have hiv:=Gl (A0 hs i) hi hks
 have hvv:a.eval v=y:=by have:=A0 hs v; rw [hv] at this; exact Zo hgf this
 obtain ⟨hnil,ob,hob,es,clock,rfl,hok,hes⟩:=hs.ob m _ hm
 have hu:P.underlying t=some (.map k e):=S6 ht
 have hchk:∀ em,(Instr.checkKey em 10000 k (.agg (ks.map (Value.int .i64)).toArray)).run P w=.ok () w:=fun em=>by
  obtain ⟨l,hkl⟩:=hk.2 ks hl hr
  exact hk.1.check w em hkl
 have hlt:(θ m).blk < w.heap.size:=hs.mlt _ (hs.lv m _ hm hnil).1
 rcases Xd hk hl hr hok hes w with ⟨hn,hf⟩ | ⟨j,v',hv',hf⟩
 ·have hrun:(execOp a.eval o).run P w=.ok .skip (w.putObj (θ m).blk (.map (es.push { key:=P3 ks,val:=y,born:=clock }) (clock+1))):=by
   unfold P3 at hf ⊢
   simp [execOp,ho,hxv,hiv,hvv,Instr.mapUpdate,Bt hu,getObj,setObj,Sem.run,hob,hchk,hf,World.putObj]
  rw [hrun]
  have hkk:∀ b,b≠(θ m).blk→(w.putObj (θ m).blk (.map (es.push { key:=P3 ks,val:=y,born:=clock }) (clock+1))).heap[b]?=w.heap[b]?:=fun b hb=>World.putObj_heap_other hb
  have hS:=hs.upd (o':=.obj (Vx n (kv++[(ks,y)]))) hm hnil (by simp) hkk ⟨hnil,_,World.putObj_heap_same hlt,_,_,rfl,hok',by simp [hes]⟩ (AO.lives_obj _ _)
  show ∃ st',K st'∧Fin r N B S θ M w a st' (a.put o.dst undef) (w.putObj (θ m).blk (.map (es.push { key:=P3 ks,val:=y,born:=clock }) (clock+1)))
  rw [hd]
  exact ⟨_,h1,⟨θ,M,hS,Bx.of_upd hs hm hnil (by simp) hkk rfl rfl rfl,fun _ _ _=>rfl,fun _ _ h _=>h⟩,rfl⟩
 ·rw [hnone] at hv'; cases hv'
end
theorem Awb (i:Nat):T [] i=.undef:=rfl
theorem X0 (j:Nat) (x:AV) (l:List (Nat × AV)) (i:Nat):T ((j,x) :: l) i=if i=j then x else T l i:=rfl
theorem Av4 (i:Nat):O [] i=none:=rfl
theorem Ab1 (j:Nat) (x:AO) (l:List (Nat × AO)) (i:Nat):O ((j,x) :: l) i=if i=j then some x else O l i:=rfl
theorem Ari (l:List (Nat × AV)) (d:Nat) (x:AV):upd (T l) d x=T ((d,x) :: l):=rfl
theorem Axc (l:List (Nat × AO)) (d:Nat) (x:AO):upd (O l) d (some x)=O ((d,x) :: l):=rfl
abbrev i64 (n:Int):AV:=.p (.val (.int .i64 n))
abbrev bl (b:Bool):AV:=.p (.val (.bool b))
theorem Akc (t:Nat→AV) (o:Nat→Option AO) (d:Nat) (x:AV):St.put ⟨t,o⟩ (some d) x=⟨upd t d x,o⟩:=rfl
theorem Ajf (s:St) (x:AV):St.put s none x=s:=rfl
theorem Alx (t:Nat→AV) (o:Nat→Option AO) (n:Nat) (x:AO):St.setO ⟨t,o⟩ n x=⟨t,upd o n (some x)⟩:=rfl
def Ter (n:Nat) (l:List (Nat × AV)):List (Nat × AV):=l.map fun p=>(p.1,p.2.purge n)
def Oer (n:Nat):List (Nat × AO)→List (Nat × AO)
  | []=>[]
  | (j,x) :: l=>if j=n then Oer n l else (j,x.purge n) :: Oer n l
theorem Adl (n:Nat) (l:List (Nat × AV)):(fun i=>(T l i).purge n)=T (Ter n l):=by
  funext i
  induction l with
  | nil=>rfl
  | cons p r ih=>
    simp only [Ter,List.map_cons,T]
    split
    · rfl
    · exact ih
theorem Ane (n:Nat) (l:List (Nat × AO)):(fun m=>if m=n then none else (O l m).map (AO.purge n))=O (Oer n l):=by
  funext i
  induction l with
  | nil=>simp [Oer,O]
  | cons p r ih=>
    obtain ⟨j,x⟩:=p
    have ih:(if i=n then none else (O r i).map (AO.purge n))=O (Oer n r) i:=ih
    simp only [Oer]
    by_cases hj:j=n
    · subst hj
      simp only [if_true,O]
      by_cases hi:i=j
      · subst hi; simp only [if_true] at ih ⊢; exact ih
      · simp only [hi,if_false] at ih ⊢; exact ih
    · simp only [hj,if_false,O]
      by_cases hi:i=j
      · subst hi; simp [hj]
      · simp only [hi,if_false] at ih ⊢; exact ih
theorem Ahq (n:Nat) (l:List (Nat × AV)) (m:List (Nat × AO)):St.purge n ⟨T l,O m⟩=⟨T (Ter n l),O (Oer n m)⟩:=by
  unfold St.purge
  simp only [← Adl,← Ane]
theorem Ani (n:Nat):Ter n []=[]:=rfl
theorem Ahn (n j:Nat) (x:AV) (l:List (Nat × AV)):Ter n ((j,x) :: l)=(j,x.purge n) :: Ter n l:=rfl
theorem Ma (n:Nat) (x:PV):(AV.p x).purge n=.p x:=rfl
theorem Aai (n:Nat):AV.undef.purge n=.undef:=rfl
theorem Agt (n m off:Nat):(AV.ptr m off).purge n=if m=n then .undef else .ptr m off:=by
  unfold AV.purge; by_cases h:m=n <;> simp [AV.clean,h]
theorem Abo (n m k i off:Nat):(AV.eptr m k i off).purge n=if m=n then .undef else .eptr m k i off:=by
  unfold AV.purge; by_cases h:m=n <;> simp [AV.clean,h]
theorem Ag8 (n m len:Nat):(AV.own m len).purge n=if m=n then .undef else .own m len:=by
  unfold AV.purge; by_cases h:m=n <;> simp [AV.clean,h]
theorem Afs (n m off k len:Nat):(AV.csl m off k len).purge n=if m=n then .undef else .csl m off k len:=by
  unfold AV.purge; by_cases h:m=n <;> simp [AV.clean,h]
theorem Agn (n:Nat) (l:List AV):(AV.tup l).purge n=if AV.clean.cleanL n l then .tup l else .undef:=rfl
theorem Age (n:Nat) (l:List AV):(AV.agg l).purge n=if AV.clean.cleanL n l then .agg l else .undef:=rfl
theorem F1 (n:Nat) (l:List AV):(AO.cells l).purge n=.cells (l.map (AV.purge n)):=rfl
theorem Hx (n k:Nat) (es:List (List PV)):(AO.arr k es).purge n=.arr k es:=rfl
def Ct:Op→Bool
  | .call c=>match c.callee with | .value _=>true | _=>false
  | _=>false
def Ds:Op→Bool
  | .defer _=>true
  | _=>false
def Cm (N:Nat):Option Nat→Bool
  | none=>true
  | some d=>decide (d < N)
def EA (nb:Nat) (dst:Option Nat) (s:St) (K:St→Prop):Option Eff→Prop
  | some e=>match e.apply nb dst s with
    | some s'=>K s'
    | none=>False
  | none=>False
def EC (P:Program) (s:St) (K:AV→Prop):Op→Prop
  | .call ⟨.value (.func f),as,_⟩=>Bs P f=true∧∃ args res,D7 s.o (as.toList.map (ev s.t))=some args∧Bf P f args res∧(res.scal=true∨as.toList.map (ev s.t)=args∨Aeu P f args res)∧K res
  | _=>False
def EN (P:Program) (nb:Nat) (dst:Option Nat) (s:St) (K:St→Prop):Op→Prop
  | .call ⟨.value (.func f),as,_⟩=>Bs P f=true∧∃ args k es d,D7 s.o (as.toList.map (ev s.t))=some args∧Adg P f args k es∧dst=some d∧s.o (nb+d)=none∧K ((s.setO (nb+d) (.arr k es)).put dst (.own (nb+d) es.length))
  | _=>False
def isV (v:List Nat):Op→Bool
  | .call c=>match c.callee with
    | .value (.func f)=>v.contains f
    | .value _=>true
    | _=>false
  | _=>false
def Ape (P:Program) (r:RB) (N:Nat) (fv:AV) (args:List AV) (dst:Option Nat) (s:St) (K:St→Prop):Prop:=
  Cm N dst=true∧∃ mv bd R,Eo P mv bd fv args s.o R∧(∀ n,bd≤n→s.o n=none)∧r.b≤bd∧(∀ n,mv n→r.mv n∨r.b≤n) ∧
    ∀ res os',R res os'→(Hp os').closed→res.lives os'→∃ t':Nat→AV,(∀ i,t' i=.undef∨(t' i=s.t i∧(s.t i).stays mv))∧(∀ i,(t' i).lives os')∧K (St.put ⟨t',os'⟩ dst res)
def EVq (P:Program) (r:RB) (N:Nat) (fv:AV) (args:List AV) (dst:Option Nat) (s:St) (K:St→Prop):Prop:=
  Cm N dst=true∧∃ bd res,Bm P bd fv args s.o (fun x os'=>x=res∧os'=s.o)∧(∀ n,bd≤n→s.o n=none)∧r.b≤bd∧res.isP=true∧K (s.put dst res)
def EVk (P:Program) (r:RB) (N:Nat) (fv:AV) (args:List AV) (dst:Option Nat) (s:St) (K:St→Prop):Prop:=
  Ape P r N fv args dst s K∨(∃ n k es,s.o n=some (.arr k es)∧Ape P r N (fv.frz n es) (args.map (AV.frz n es)) dst (s.frz n es) K)∨EVq P r N fv args dst s K
theorem Ak8 {n:Nat} {es:List (List PV)} {s:St}:∀ (x:Operand),ev (s.frz n es).t x=(ev s.t x).frz n es
  | .tmp _=>rfl
  | .global _=>rfl
  | .func _=>rfl
  | .const v=>by
    show B4 v=(B4 v).frz n es
    unfold B4
    split
    · split
      · simp only [AV.frz,Kp,List.map_map]; rfl
      · rfl
    · rfl
    · rfl
def isQ (q:List Nat):Operand→Bool
  | .func f=>q.contains f
  | _=>false
def EV (P:Program) (r:RB) (N:Nat) (dst:Option Nat) (s:St) (K:St→Prop):Op→Prop
  | .call c=>match c.callee with
    | .value g=>if isQ r.q g=true then EVq P r N (ev s.t g) (c.args.toList.map (ev s.t)) dst s K else EVk P r N (ev s.t g) (c.args.toList.map (ev s.t)) dst s K
    | _=>False
  | _=>False
def isM:Op→Bool
  | .makeMap _ none=>true
  | .lookup _ _ _ true=>true
  | .mapUpdate ..=>true
  | _=>false
def LV (P:Program) (t:TypeId) (x i:AV) (os:Nat→Option AO) (A B:AV):Prop:=∃ k e m n z cs ks,(Ab P t).k=.mp k e∧(∀ w,(zeroValue e).run P w=.ok z w)∧F0 z=true∧Jy P k n∧x=.mp m∧i=.agg cs∧Ck cs=some ks∧ks.length=n∧ks.all inR=true ∧
  ((∃ g,F0 (g ks)=true∧os m=some (.obj (Kq n g))∧A=.tup [B4 (g ks),.p (.val (.bool true))]∧B=.tup [B4 z,.p (.val (.bool false))]) ∨
   ∃ kv,os m=some (.obj (Vx n kv))∧B=A∧((∃ v,J1 ks kv=some v∧F0 v=true∧A=.tup [B4 v,.p (.val (.bool true))])∨(J1 ks kv=none∧A=.tup [B4 z,.p (.val (.bool false))])))
def UV (P:Program) (t:TypeId) (x i v:AV) (s:St) (s':St):Prop:=∃ k e m n cs ks,(Ab P t).k=.mp k e∧Jy P k n∧x=.mp m∧i=.agg cs∧Ck cs=some ks∧ks.length=n∧ks.all inR=true ∧
  ((∃ g,s.o m=some (.obj (Kq n g))∧F0 (g ks)=true∧v=B4 (g ks)∧s'=s) ∨
   ∃ kv y,s.o m=some (.obj (Vx n kv))∧J1 ks kv=none∧Yu n (kv++[(ks,y)])=true∧F0 y=true∧v=B4 y∧s'=s.setO m (.obj (Vx n (kv++[(ks,y)]))))
def Ain (X:Obj→Prop):Prop:=(∃ n g,X=Kq n g)∨∃ n,X=Vx n []
def EM (P:Program) (r:RB) (N:Nat) (dst:Option Nat) (s:St) (K:St→Prop):Op→Prop
  | .makeMap _ none=>∃ dd X,Ain X∧dst=some dd∧dd < N∧s.o (r.b+dd)=none∧K ((s.setO (r.b+dd) (.obj X)).put dst (.mp (r.b+dd)))
  | .lookup t x i true=>Cm N dst=true∧∃ A B,LV P t (ev s.t x) (ev s.t i) s.o A B∧K (s.put dst A)∧K (s.put dst B)
  | .mapUpdate t x i v=>dst=none∧∃ s',UV P t (ev s.t x) (ev s.t i) (ev s.t v) s s'∧K s'
  | _=>False
theorem Alj {P:Program} {r:RB} {N:Nat} {o:Oper} {s:St} {K:St→Prop} (h:EM P r N o.dst s K o.op):D1 P r N o s K:=by
  unfold EM at h
  split at h
  · rename_i t ho
    obtain ⟨dd,X,hX,h1,h2,h3,h4⟩:=h
    rcases hX with ⟨n,g,rfl⟩ | ⟨n,rfl⟩
    · exact Vr ho h1 h2 h3 h4
    · exact T8 ho h1 h2 h3 h4
  · rename_i t x i ho
    obtain ⟨h0,A,B,⟨k,e,m,n,z,cs,ks,h1,h2,f1,h3,h4,h6,h7,h8,h9,hc⟩,h10,h11⟩:=h
    have hd:∀ k,o.dst=some k→k < N:=fun k hk=>by rw [hk] at h0; simpa [Cm] using h0
    rcases hc with ⟨g,f2,h5,rfl,rfl⟩ | ⟨kv,h5,rfl,hc⟩
    · exact Ym ho hd h1 h2 f1 f2 h3 h4 h5 h6 h7 h8 h9 h10 h11
    · rcases hc with ⟨v,c1,c2,rfl⟩ | ⟨c1,rfl⟩
      · exact N2 ho hd h1 h2 f1 h3 h4 h5 h6 h7 h8 h9 (fun v' hv'=>by rw [c1] at hv'; cases hv'; exact ⟨c2,h10⟩) (fun hn=>by rw [c1] at hn; cases hn)
      · exact N2 ho hd h1 h2 f1 h3 h4 h5 h6 h7 h8 h9 (fun v' hv'=>by rw [c1] at hv'; cases hv') (fun _=>h10)
  · rename_i t x i v ho
    obtain ⟨h0,s',⟨k,e,m,n,cs,ks,h1,h3,h4,h6,h7,h8,h9,hc⟩,h11⟩:=h
    rcases hc with ⟨g,h5,f1,h10,rfl⟩ | ⟨kv,y,h5,c1,c2,f1,h10,rfl⟩
    · exact Sn ho h0 h1 h3 h4 h5 h6 h7 h8 h9 f1 h10 h11
    · exact Rc ho h0 h1 h3 h4 h5 h6 h7 h8 h9 c1 c2 f1 h10 h11
  · exact h.elim
def EO (P:Program) (r:RB) (N:Nat) (o:Oper) (s:St) (K:St→Prop):Prop:=
  if isM o.op then EM P r N o.dst s K o.op else if isV r.v o.op then EV P r N o.dst s K o.op else if Ct o.op then Cm N o.dst=true∧(EC P s (fun x=>K (s.put o.dst x)) o.op∨EN P r.b o.dst s K o.op) else (Ds o.op=false∧Cm N o.dst=true)∧EA r.b o.dst s K (eff P (r.b+o.dst.getD 0) o.op (ev s.t) s.o)
def EL (P:Program) (r:RB) (N:Nat) (all:List Oper):List Oper→St→(St→Prop)→Prop
  | [],s,K=>K s
  | o :: rest,s,K=>match o.guard with
    | none=>EO P r N o s fun s'=>EL P r N all rest s' K
    | some (j,want)=>match Kk all j with
      | none=>False
      | some t=>match s.t t with
        | .p (.val (.bool b))=>Cm N o.dst=true∧(b=want→EO P r N o s fun s'=>EL P r N all rest s' K)∧(b=!want→EL P r N all rest (s.put o.dst Dc) K)
        | .tup []=>Cm N o.dst=true∧EL P r N all rest (s.put o.dst Dc) K
        | _=>False
theorem Cw {N:Nat} {d:Option Nat} (h:Cm N d=true):∀ k,d=some k→k < N:=by
  intro k hk; subst hk; simpa [Cm] using h
theorem N6 {P:Program} {r:RB} {N:Nat} {s:St} {o:Oper} {K:St→Prop} {c:Call} {g:Operand} {bd:Nat} {res:AV} (ho:o.op=.call c) (hd:∀ k,o.dst=some k→k < N) (hc:c.callee=.value g)
    (hcall:Bm P bd (ev s.t g) (c.args.toList.map (ev s.t)) s.o (fun x os'=>x=res∧os'=s.o)) (hbd:∀ n,bd≤n→s.o n=none) (hb:r.b≤bd) (h:K (s.put o.dst res)):D1 P r N o s K:=by
  intro B S θ M w a Q hs
  exact Z7 ho hd hc hcall hbd hb (fun x os' ⟨e1,e2⟩ _ _=>⟨s.t,fun _=>.inr rfl,fun i=>by rw [e2]; exact hs.cl.1 i,by subst e1 e2; exact h⟩) B S θ M w a Q hs
theorem Jb {P:Program} {r:RB} {N:Nat} {o:Oper} {s:St} {K:St→Prop} (h:EO P r N o s K):D1 P r N o s K:=by
  unfold EO at h
  split at h
  · exact Alj h
  split at h
  · unfold EV at h
    split at h
    · rename_i c ho
      split at h
      · rename_i g hc
        split at h
        · obtain ⟨h1,bd,res,h2,h3,h4,h5,h6⟩:=h
          exact N6 ho (Cw h1) hc h2 h3 h4 h6
        · rcases h with h | ⟨n,k,es,hn,h⟩ | h
          · obtain ⟨h1,mv,bd,R,h2,h3,h4,h6,h5⟩:=h
            exact L6 ho (Cw h1) hc h2 h3 h4 h6 h5
          · obtain ⟨h1,mv,bd,R,h2,h3,h4,h6,h5⟩:=h
            refine Ae5 n hn (L6 ho (Cw h1) hc ?_ h3 h4 h6 h5)
            rw [Ak8,List.map_congr_left (fun x _=>Ak8 x)]
            rw [List.map_map] at h2
            exact h2
          · obtain ⟨h1,bd,res,h2,h3,h4,h5,h6⟩:=h
            exact N6 ho (Cw h1) hc h2 h3 h4 h6
      · exact h.elim
    · exact h.elim
  split at h
  · obtain ⟨h1,h2⟩:=h
    rcases h2 with h2 | h2
    · unfold EC at h2
      split at h2
      · rename_i f as ts ho
        obtain ⟨h3,args,res,h4,h5,h6,h7⟩:=h2
        rcases h6 with h6 | h6 | h6
        · exact Ub ho (Cw h1) rfl h3 h4 h5 (.inl h6) h7
        · exact Ub ho (Cw h1) rfl h3 h4 h5 (.inr h6) h7
        · exact Zc ho (Cw h1) rfl h3 h4 h6 h7
      · exact h2.elim
    · unfold EN at h2
      split at h2
      · rename_i f as ts ho
        obtain ⟨h3,args,k,es,d,h4,h5,h6,h7,h8⟩:=h2
        exact Z3 ho h6 (Cw h1 d h6) rfl h3 h4 h5 h7 h8
      · exact h2.elim
  · obtain ⟨⟨h1,h2⟩,h3⟩:=h
    unfold EA at h3
    split at h3
    · rename_i e he
      split at h3
      · rename_i s' hs'
        exact D1.eff (d:=r.b+o.dst.getD 0) (fun c hc=>by rw [hc] at h1; cases h1) (Cw h2) (fun k hk=>by rw [hk]; rfl) he hs' h3
      · cases h3
    · cases h3
theorem D1.mono {P:Program} {r:RB} {N:Nat} {o:Oper} {s:St} {K K':St→Prop} (h:D1 P r N o s K) (hk:∀ s,K s→K' s):D1 P r N o s K':=by
  intro B S θ M w a Q hs
  exact Oper.wpIn_mono (fun a' w' ⟨st',h1,h2⟩=>⟨st',hk _ h1,h2⟩) (h B S θ M w a Q hs)
theorem Jh {P:Program} {r:RB} {N:Nat} {all:List Oper}:∀ {l:List Oper} {s:St} {K:St→Prop},EL P r N all l s K→AL P r N all l s K
  | [],s,K,h=>.nil h
  | ⟨dst,op,ty,pos,after,none⟩ :: rest,s,K,h=>by
    simp only [EL] at h
    exact AL.step ((Jb h).mono fun s' h'=>Jh h')
  | ⟨dst,op,ty,pos,after,some (j,want)⟩ :: rest,s,K,h=>by
    simp only [EL] at h
    split at h
    · cases h
    · rename_i t ht
      split at h
      · rename_i b hb
        obtain ⟨h1,h2,h3⟩:=h
        refine AL.guard (Cw h1) ht (g:=some b) (by rw [hb]; rfl) (fun e=>(Jb (h2 (by simpa using e))).mono fun s' h'=>Jh h') (fun e=>Jh (h3 ?_))
        cases b <;> cases want <;> simp_all
      · rename_i hb
        exact AL.guard (Cw h.1) ht (g:=none) (by rw [hb]; rfl) (fun e=>by cases e) (fun _=>Jh h.2)
      · cases h
theorem Ac {P:Program} {r:RB} {N:Nat} {st:St} {Q:AEx→St→Prop} {id:Nat} {ops:List Oper} (h:EL P r N ops ops st (Q .normal)):AWP P r N (.region id ops.toArray false) st Q:=Pz (Jh h)
theorem Api {P:Program} {r:RB} {N:Nat} {all:List Oper} {s:St} {K:St→Prop}:EL P r N all [] s K=K s:=rfl
theorem Ar7 {P:Program} {r:RB} {N:Nat} {all rest:List Oper} {s:St} {K:St→Prop} {dst:Option Nat} {op:Op} {ty:TypeId} {pos:String} {after:Array Edge} :
    EL P r N all (⟨dst,op,ty,pos,after,none⟩ :: rest) s K=EO P r N ⟨dst,op,ty,pos,after,none⟩ s fun s'=>EL P r N all rest s' K:=rfl
def EG (P:Program) (r:RB) (N:Nat) (all rest:List Oper) (o:Oper) (want:Bool) (s:St) (K:St→Prop):AV→Prop
  | .p (.val (.bool b))=>Cm N o.dst=true∧(b=want→EO P r N o s fun s'=>EL P r N all rest s' K)∧(b=!want→EL P r N all rest (s.put o.dst Dc) K)
  | .tup []=>Cm N o.dst=true∧EL P r N all rest (s.put o.dst Dc) K
  | _=>False
theorem Aol {P:Program} {r:RB} {N:Nat} {all rest:List Oper} {s:St} {K:St→Prop} {dst:Option Nat} {op:Op} {ty:TypeId} {pos:String} {after:Array Edge} {j:Nat} {want:Bool} :
    EL P r N all (⟨dst,op,ty,pos,after,some (j,want)⟩ :: rest) s K=EG P r N all rest ⟨dst,op,ty,pos,after,some (j,want)⟩ want s K ((Kk all j).elim .undef s.t):=by
  simp only [EL]
  cases Kk all j with
  | none=>rfl
  | some t=>
    simp only [Option.elim]
    unfold EG
    rfl
theorem Aqn {P:Program} {r:RB} {N:Nat} {all rest:List Oper} {s:St} {K:St→Prop} {o:Oper} {want:Bool} :
    EG P r N all rest o want s K (.tup [])=(Cm N o.dst=true∧EL P r N all rest (s.put o.dst Dc) K):=rfl
theorem Aqf (t:Nat→AV) (i:Nat):ev t (.tmp i)=t i:=rfl
theorem Aov (t:Nat→AV) (k:IntKind) (n:Int):ev t (.const (.int k n))=.p (.val (.int k n)):=rfl
theorem Anx (t:Nat→AV) (b:Bool):ev t (.const (.bool b))=bl b:=rfl
theorem Aiq (t:Nat→AV) (a:Option Addr) (l c:Nat):ev t (.const (.slice a l c))=.p (.val (.slice a l c)):=rfl
theorem Am0 (t:Nat→AV) (f:FuncId):ev t (.func f)=.fn (.func f) [] []:=rfl
theorem Gk {n:Int} (h1:-9223372036854775808≤n) (h2:n < 9223372036854775808):IntKind.i64.wrap n=n:=by
  simp only [IntKind.wrap,IntKind.bits,IntKind.signed]
  simp
  omega
end AM
namespace AM
open Go
def Ret (P:Program) (rs:List ResultVar) (res:AV):AEx→St→Prop
  | .normal,s=>(Ea P s rs).map Fz=some res
  | .ret,s=>(Ea P s rs).map Fz=some res
  | .exit _,_=>False
theorem Acq {P:Program} {rs:List ResultVar} {res:AV} {s:St}:Ret P rs res .normal s=((Ea P s rs).map Fz=some res):=rfl
theorem Anu {P:Program} {rs:List ResultVar} {res:AV} {s:St}:Ret P rs res .ret s=((Ea P s rs).map Fz=some res):=rfl
theorem Hm {K:St→Prop} {Q:AEx→St→Prop} {s:St}:H7 K Q .normal s=K s:=rfl
theorem Ny {K:St→Prop} {Q:AEx→St→Prop} {s:St}:H7 K Q .ret s=Q .ret s:=rfl
theorem Eb {K:St→Prop} {Q:AEx→St→Prop} {s:St} {i:Nat}:H7 K Q (.exit i) s=Q (.exit i) s:=rfl
theorem Ei {i:Nat} {Q:AEx→St→Prop} {s:St}:Jl i Q .normal s=Q .normal s:=rfl
theorem L0 {i:Nat} {Q:AEx→St→Prop} {s:St}:Jl i Q .ret s=Q .ret s:=rfl
theorem J0 {i j:Nat} {Q:AEx→St→Prop} {s:St}:Jl i Q (.exit j) s=if j=i then Q .normal s else Q (.exit j) s:=rfl
def ixs:Nat→List AV→List (Nat × AV)
  | _,[]=>[]
  | i,x :: r=>(i,x) :: ixs (i+1) r
theorem Aon (l:List AV):∀ k i,T (ixs k l) i=if i < k then .undef else l.getD (i - k) .undef:=by
  induction l with
  | nil=>intro k i; simp [ixs,T]
  | cons x r ih=>
    intro k i
    simp only [ixs,T,ih]
    by_cases h:i=k
    · subst h; simp
    · simp only [h,if_false]
      by_cases h2:i < k
      · rw [if_pos h2,if_pos (by omega)]
      · rw [if_neg h2,if_neg (by omega)]
        have e:i - k=(i - (k+1))+1:=by omega
        rw [e]; simp
theorem Aa7 (l:List AV):St.init l=⟨T (ixs 0 l),O []⟩:=by
  unfold St.init
  congr 1
  funext i
  rw [Aon]; simp
theorem Au {v q:List Nat} {P:Program} {f:FuncId} {fn:Func} {body:Code} {args:List AV} {res:AV} {N:Nat} {rs:List ResultVar} (hf:P.funcs[f]?=some fn) (hb:fn.body=some body) (hN:fn.ntmps=N) (hrs:fn.results.toList=rs) (hargs:args.all AV.isP=true) (hres:res.isP=true)
    (h:AWP P ⟨⟨none,fun _=>False⟩,0,v,q⟩ N body ⟨T (ixs 0 args),O []⟩ (Ret P rs res)):Bf P f args res:=by
  subst hN hrs
  refine Yf (v:=v) (q:=q) hf hb hargs ?_ hres
  rw [Aa7]
  refine h.mono fun e s h=>?_
  cases e with
  | normal=>exact ⟨.inl rfl,h⟩
  | ret=>exact ⟨.inr rfl,h⟩
  | exit i=>exact h.elim
end AM
namespace AM
open Go
def Avn (i:Nat) (res:AV):AEx→St→Prop
  | .normal,s=>Aeh 0 s.o (s.t i)=some res
  | .ret,s=>Aeh 0 s.o (s.t i)=some res
  | .exit _,_=>False
theorem Aao {i:Nat} {res:AV} {s:St}:Avn i res .normal s=(Aeh 0 s.o (s.t i)=some res):=rfl
theorem Ahy {i:Nat} {res:AV} {s:St}:Avn i res .ret s=(Aeh 0 s.o (s.t i)=some res):=rfl
theorem Ro {v q:List Nat} {P:Program} {f:FuncId} {fn:Func} {body:Code} {args:List AV} {res:AV} {N:Nat} {rs:List ResultVar} (hf:P.funcs[f]?=some fn) (hb:fn.body=some body) (hN:fn.ntmps=N) (hrs:fn.results.toList=rs) (hargs:args.all AV.isP=true) (hres:res.isP=true)
    (h:Kd P ⟨⟨none,fun _=>False⟩,0,v,q⟩ N body ⟨T (ixs 0 args),O []⟩ (Ret P rs res)):Bf P f args res:=by
  subst hN hrs
  refine Vp (v:=v) (q:=q) hf hb hargs ?_ hres
  rw [Aa7]
  intro B S θ M w a hs
  refine wpIn_mono (h B S θ M w a hs) ?_
  rintro e a' w' ⟨ae,st',h1,h2,h3⟩
  refine ⟨ae,st',h1,?_,h3⟩
  cases ae with
  | normal=>exact ⟨.inl rfl,h2⟩
  | ret=>exact ⟨.inr rfl,h2⟩
  | exit i=>exact h2.elim
theorem Td (l:List AV):(fun i=>l.getD i .undef)=T (ixs 0 l):=by
  funext i
  rw [Aon]; simp
theorem Bn {mv:Nat→Prop} {P:Program} {f:FuncId} {fn:Func} {body:Code} {bd N:Nat} {v q:List Nat} {fs args cs:List AV} {rs:List ResultVar} {os:Nat→Option AO} {R:AV→(Nat→Option AO)→Prop} (hf:P.funcs[f]?=some fn) (hb:fn.body=some body) (hcal:Bs P f=true) (hN:fn.ntmps=N) (hrs:fn.results.toList=rs)
    (h:(Hp os).closed→(∀ n,bd≤n→os n=none)→AWP P ⟨⟨none,mv⟩,bd,v,q⟩ N body ⟨T (ixs 0 (fs++args++cs)),os⟩ (Agd P rs R)):Eo P mv bd (.fn (.func f) fs cs) args os R:=by
  subst hN hrs
  exact Ys (v:=v) (q:=q) hf hb hcal fun h1 h2=>by rw [Td]; exact h h1 h2
theorem Afg {mv:Nat→Prop} {P:Program} {f:FuncId} {fn:Func} {body:Code} {bd N:Nat} {v q:List Nat} {fs args cs:List AV} {rs:List ResultVar} {os:Nat→Option AO} {R:AV→(Nat→Option AO)→Prop} (hf:P.funcs[f]?=some fn) (hb:fn.body=some body) (hcal:Bs P f=true) (hN:fn.ntmps=N) (hrs:fn.results.toList=rs)
    (h:(Hp os).closed→(∀ n,bd≤n→os n=none)→Kd P ⟨⟨none,mv⟩,bd,v,q⟩ N body ⟨T (ixs 0 (fs++args++cs)),os⟩ (Agd P rs R)):Eo P mv bd (.fn (.func f) fs cs) args os R:=by
  subst hN hrs
  exact Vn (v:=v) (q:=q) hf hb hcal fun h1 h2=>by rw [Td]; exact h h1 h2
end AM
namespace AM
open Go
theorem Al4 {k s b z}:TI.agg ⟨.int k,s,b,z⟩=some false:=rfl
theorem Ajg {s b z}:TI.agg ⟨.bool,s,b,z⟩=some false:=rfl
theorem Al7 {s b z}:TI.agg ⟨.str,s,b,z⟩=some false:=rfl
theorem Aot {e s b z}:TI.agg ⟨.sl e,s,b,z⟩=some false:=rfl
theorem Apq {k e s b z}:TI.agg ⟨.mp k e,s,b,z⟩=some false:=rfl
theorem Afy {s b z}:TI.agg ⟨.other,s,b,z⟩=some false:=rfl
theorem Ab9 {f s b z}:TI.agg ⟨.struct f,s,b,z⟩=some true:=rfl
theorem Amg {n e s b z}:TI.agg ⟨.arr n e,s,b,z⟩=some true:=rfl
theorem Ao0 {sz:Nat} {x:AV} {r:List AV}:Ay false sz (x :: r)=some x:=rfl
theorem Abn {sz:Nat} {cs:List AV}:Ay true sz cs=if sz≤cs.length then some (.agg (cs.take sz)) else none:=rfl
section
variable {P:Program} {r:RB} {N:Nat} {s:St} {K:St→Prop} {dst:Option Nat} {ty:TypeId} {pos:String} {after:Array Edge} {g:Option (Nat × Bool)} {os:Nat→Option AO}
theorem Rh {v:List Nat} {op:Op} (h:Ct op=false):isV v op=false:=by
 unfold isV
 split
 ·rename_i c
  split
  ·rename_i f hc; simp [Ct,hc] at h
  ·rename_i g _ hc; simp [Ct,hc] at h
  ·rfl
 ·rfl
theorem An2 {op:Op} (h1:Ct op=false) (h2:Ds op=false) (h3:isM op=false:=by rfl):EO P r N ⟨dst,op,ty,pos,after,g⟩ s K=(Cm N dst=true∧EA r.b dst s K (eff P (r.b+dst.getD 0) op (ev s.t) s.o)):=by
 simp [EO,h1,h2,h3,Rh h1]
def EOp (nb N:Nat) (dst:Option Nat) (s:St) (K:St→Prop) (e:Option Eff):Prop:=Cm N dst=true∧EA nb dst s K e
theorem C9 {op:Op} (h1:Ct op=false) (h2:Ds op=false) {e:Option Eff} (he:eff P (r.b+dst.getD 0) op (ev s.t) s.o=e) (h3:isM op=false:=by rfl):EO P r N ⟨dst,op,ty,pos,after,g⟩ s K=EOp r.b N dst s K e:=by
 rw [An2 h1 h2 h3,he]; rfl
theorem Ajv {nb d:Nat} {x:AV}:EOp nb N (some d) s K (some (.pure x))=(decide (d < N)=true∧K (s.put (some d) x)):=rfl
theorem Ajb {nb:Nat}:EOp nb N dst s K none=False:=by simp [EOp,EA]
theorem Am2 {nb d:Nat} {o:AO} {x:AV}:EOp nb N (some d) s K (some (.new o x))=(decide (d < N)=true∧if (s.o (nb+d)).isNone=true then K ((s.setO (nb+d) o).put (some d) x) else False):=by
 simp only [EOp,EA,Cm,Eff.apply]
 cases hb:(s.o (nb+d)).isNone <;> simp
theorem An7 {nb n:Nat} {o:AO}:EOp nb N none s K (some (.upd n o))=K (s.setO n o):=by simp [EOp,EA,Cm,Eff.apply,St.put]
theorem Am1 {nb d n:Nat} {o:AO} {x:AV}:EOp nb N (some d) s K (some (.app n o x))=(decide (d < N)=true∧if ((s.purge n).o (nb+d)).isNone=true then K (((s.purge n).setO (nb+d) o).put (some d) x) else False):=by
 simp only [EOp,EA,Cm,Eff.apply]
 cases hb:((s.purge n).o (nb+d)).isNone <;> simp
theorem Ajq {x:Operand}:EO P r N ⟨dst,.move x,ty,pos,after,g⟩ s K=EOp r.b N dst s K (some (.pure (ev s.t x))):=C9 rfl rfl rfl
theorem Afi {x:Operand}:EO P r N ⟨dst,.assign x,ty,pos,after,g⟩ s K=EOp r.b N dst s K (some (.pure (ev s.t x))):=C9 rfl rfl rfl
def Vj:AV→AV→AV→Option Eff
 | .p (.val (.bool b)),x,y=>some (.pure (if b=true then x else y))
 | _,_,_=>none
theorem Anq {x y:AV}:Vj (bl true) x y=some (.pure x):=rfl
theorem Ano {x y:AV}:Vj (bl false) x y=some (.pure y):=rfl
theorem Am6 {b:Bool} {x y:AV}:Vj (bl b) x y=some (.pure (if b=true then x else y)):=rfl
theorem Al9 {c a b:Operand}:EO P r N ⟨dst,.pick c a b,ty,pos,after,g⟩ s K=EOp r.b N dst s K (Vj (ev s.t c) (ev s.t a) (ev s.t b)):=by
 refine C9 rfl rfl ?_
 cases h:ev s.t c with
 | p x=>cases x with
  | val v=>cases v <;> simp [eff,h,Vj]
  | _=>simp [eff,h,Vj]
 | _=>simp [eff,h,Vj]
def Aia (d:Nat) (ti:TI):Option Eff:=if ti.zero.all Value.oneCell'∧ti.sz=ti.zero.length∧0 < ti.sz∧ti.agg.isSome then some (.new (.cells (E7 ti.zero)) (.ptr d 0)) else none
theorem Ai4 {t:TypeId}:EO P r N ⟨dst,.alloc t,ty,pos,after,g⟩ s K=EOp r.b N dst s K (Aia (r.b+dst.getD 0) (Ab P t)):=by
 exact C9 rfl rfl rfl
theorem Apj {cs:List AV}:AV.cs? (.agg cs)=some cs:=rfl
theorem Bao {x:PV}:AV.cs? (.p x)=some [.p x]:=rfl
theorem Ap6 {n o:Nat}:AV.cs? (.ptr n o)=some [.ptr n o]:=rfl
theorem Aqg {n o:Nat}:AV.cs? (.own n o)=some [.own n o]:=rfl
theorem Apa {n o k l:Nat}:AV.cs? (.csl n o k l)=some [.csl n o k l]:=rfl
theorem Atr {f:Fn} {a b:List AV}:AV.cs? (.fn f a b)=some [.fn f a b]:=rfl
theorem Aye {n:Nat}:AV.cs? (.mp n)=some [.mp n]:=rfl
theorem Aph {t:TypeId} {x:Operand}:EO P r N ⟨dst,.box t x,ty,pos,after,g⟩ s K=EOp r.b N dst s K ((ev s.t x).cs?.map fun cs=>.new (.cells cs) (.ptr (r.b+dst.getD 0) 0)):=by
 exact C9 rfl rfl rfl
def Ec (ag:Option Bool) (sz:Nat) (os:Nat→Option AO) (x:AV):Option Eff:=
 match ag with
  | none=>none
  | some g=>match x with
   | .ptr n off=>match os n with
    | some (.cells cs)=>(Ay g sz (cs.drop off)).map .pure
    | _=>none
   | .eptr n k i off=>match os n with
    | some (.arr k' es)=>if k=k'∧i < es.length then (Ay g sz (((es.getD i []).drop off).map .p)).map .pure else none
    | _=>none
   | .p (.ro cs)=>(Ay g sz (cs.map .p)).map .pure
   | _=>none
def Up (g:Bool) (sz off:Nat):Option AO→Option Eff
 | some (.cells cs)=>(Ay g sz (cs.drop off)).map .pure
 | _=>none
def T4 (g:Bool) (sz k i off:Nat):Option AO→Option Eff
 | some (.arr k' es)=>if k=k'∧i < es.length then (Ay g sz (((es.getD i []).drop off).map .p)).map .pure else none
 | _=>none
theorem Ek {b:Bool} {sz n off:Nat}:Ec (some b) sz os (.ptr n off)=Up b sz off (os n):=by unfold Ec Up; rfl
theorem E2 {b:Bool} {sz n k i off:Nat}:Ec (some b) sz os (.eptr n k i off)=T4 b sz k i off (os n):=by unfold Ec T4; rfl
theorem Jj {b:Bool} {sz:Nat} {cs:List PV}:Ec (some b) sz os (.p (.ro cs))=(Ay b sz (cs.map .p)).map .pure:=rfl
theorem Hr {b:Bool} {sz off:Nat} {cs:List AV}:Up b sz off (some (.cells cs))=(Ay b sz (cs.drop off)).map .pure:=rfl
theorem Ty {b:Bool} {sz off k k' i:Nat} {es:List (List PV)}:T4 b sz k i off (some (.arr k' es))=if k=k'∧i < es.length then (Ay b sz (((es.getD i []).drop off).map .p)).map .pure else none:=rfl
theorem Anc {t:TypeId} {x:Operand}:EO P r N ⟨dst,.load t x,ty,pos,after,g⟩ s K=EOp r.b N dst s K (Ec (Ab P t).agg (Ab P t).sz s.o (ev s.t x)):=by
 exact C9 rfl rfl rfl
def Ur (ag:Option Bool) (sz:Nat) (os:Nat→Option AO) (x:AV) (v:Option (List AV)):Option Eff:=
 match v,ag with
  | some vs,some _=>if vs.length=sz then
    match x with
    | .ptr n off=>match os n with
     | some (.cells cs)=>if off+vs.length≤cs.length then some (.upd n (.cells (Bd cs off vs))) else none
     | _=>none
    | .eptr n k i off=>match os n,Lv vs with
     | some (.arr k' es),some ps=>if k=k'∧i < es.length∧off+ps.length≤k then some (.upd n (.arr k (es.set i (Bd (es.getD i []) off ps)))) else none
     | _,_=>none
    | _=>none
   else none
  | _,_=>none
def X7 (n off:Nat) (vs:List AV):Option AO→Option Eff
 | some (.cells cs)=>if off+vs.length≤cs.length then some (.upd n (.cells (Bd cs off vs))) else none
 | _=>none
def Xw (n k i off:Nat):Option AO→Option (List PV)→Option Eff
 | some (.arr k' es),some ps=>if k=k'∧i < es.length∧off+ps.length≤k then some (.upd n (.arr k (es.set i (Bd (es.getD i []) off ps)))) else none
 | _,_=>none
theorem Abi {b:Bool} {sz n off:Nat} {vs:List AV}:Ur (some b) sz os (.ptr n off) (some vs)=if vs.length=sz then X7 n off vs (os n) else none:=by unfold Ur X7; rfl
theorem Zv {b:Bool} {sz n k i off:Nat} {vs:List AV}:Ur (some b) sz os (.eptr n k i off) (some vs)=if vs.length=sz then Xw n k i off (os n) (Lv vs) else none:=by unfold Ur Xw; rfl
theorem Wa {n off:Nat} {vs cs:List AV}:X7 n off vs (some (.cells cs))=if off+vs.length≤cs.length then some (.upd n (.cells (Bd cs off vs))) else none:=rfl
theorem Z6 {n k k' i off:Nat} {es:List (List PV)} {ps:List PV}:Xw n k i off (some (.arr k' es)) (some ps)=if k=k'∧i < es.length∧off+ps.length≤k then some (.upd n (.arr k (es.set i (Bd (es.getD i []) off ps)))) else none:=rfl
theorem Akh {t:TypeId} {x v:Operand}:EO P r N ⟨dst,.store t x v,ty,pos,after,g⟩ s K=EOp r.b N dst s K (Ur (Ab P t).agg (Ab P t).sz s.o (ev s.t x) (ev s.t v).cs?):=by
 exact C9 rfl rfl rfl
def fFA (x:AV) (ft:Nat→Nat):Option (Nat × Nat)→Option Eff
 | some (o,t)=>if ft t=0 then none else
    match x with
    | .ptr n off=>some (.pure (.ptr n (off+o)))
    | .eptr n k i off=>some (.pure (.eptr n k i (off+o)))
    | .p (.ro cs)=>some (.pure (.p (.ro (cs.drop o))))
    | _=>none
 | none=>none
def Ew:TK→List (Nat × Nat)
 | .struct fs=>fs
 | _=>[]
theorem Aan {fs:List (Nat × Nat)}:Ew (.struct fs)=fs:=rfl
theorem An0 {n off o t:Nat} {ft:Nat→Nat}:fFA (.ptr n off) ft (some (o,t))=if ft t=0 then none else some (.pure (.ptr n (off+o))):=rfl
theorem Ahz {n k i off o t:Nat} {ft:Nat→Nat}:fFA (.eptr n k i off) ft (some (o,t))=if ft t=0 then none else some (.pure (.eptr n k i (off+o))):=rfl
theorem Ao7 {cs:List PV} {o t:Nat} {ft:Nat→Nat}:fFA (.p (.ro cs)) ft (some (o,t))=if ft t=0 then none else some (.pure (.p (.ro (cs.drop o)))):=rfl
theorem Yq {t:TypeId} {x:Operand} {f:Nat}:EO P r N ⟨dst,.fieldAddr t x f,ty,pos,after,g⟩ s K=EOp r.b N dst s K (fFA (ev s.t x) (fun t=>(Ab P t).sz) ((Ew (Ab P t).k)[f]?)):=by
 refine C9 rfl rfl ?_
 cases hk:(Ab P t).k with
 | struct fs=>
  simp only [eff,hk,Ew]
  cases fs[f]? with
  | none=>rfl
  | some p=>rfl
 | _=>simp [eff,hk,Ew,fFA]
def Tt (P:Program) (cs:Option (List AV)):Option (Nat × Nat)→Option Eff
 | some (o,ft)=>match cs,(Ab P ft).agg with
    | some cs,some g=>if o+(Ab P ft).sz≤cs.length then (Ay g (Ab P ft).sz (cs.drop o)).map .pure else none
    | _,_=>none
 | none=>none
def Yt:AV→Option (List AV)
 | .agg cs=>some cs
 | _=>none
theorem Ag5 {cs:List AV}:Yt (.agg cs)=some cs:=rfl
def Xz (o sz:Nat) (ag:Option Bool) (cs:List AV):Option Eff:=match ag with
 | some g=>if o+sz≤cs.length then (Ay g sz (cs.drop o)).map .pure else none
 | none=>none
theorem Aal {o ft:Nat} {cs:List AV}:Tt P (some cs) (some (o,ft))=Xz o (Ab P ft).sz (Ab P ft).agg cs:=by unfold Tt Xz; simp only []; cases (Ab P ft).agg <;> rfl
theorem Xr {o sz:Nat} {b:Bool} {cs:List AV}:Xz o sz (some b) cs=if o+sz≤cs.length then (Ay b sz (cs.drop o)).map .pure else none:=rfl
theorem Ahk {t:TypeId} {x:Operand} {f:Nat}:EO P r N ⟨dst,.field t x f,ty,pos,after,g⟩ s K=EOp r.b N dst s K (Tt P (Yt (ev s.t x)) ((Ew (Ab P t).k)[f]?)):=by
 refine C9 rfl rfl ?_
 cases hk:(Ab P t).k with
 | struct fs=>
  cases hx:ev s.t x with
  | agg cs=>
   simp only [eff,hk,Ew,hx,Yt]
   cases fs[f]? with
   | none=>rfl
   | some p=>simp only [Tt]; cases (Ab P p.2).agg <;> rfl
  | _=>
   simp only [eff,hk,Ew,hx,Yt]
   cases fs[f]? with
   | none=>rfl
   | some p=>rfl
 | _=>cases hx:ev s.t x <;> simp [eff,hk,Ew,Tt,hx]
def fIA (esz:Nat→Nat) (ea:Nat→Bool) (os:Nat→Option AO) (x:AV):TK→AV→Option Eff
 | .sl e,.p (.val (.int _ n))=>match x with
   | .p (.sl es)=>if 0≤n∧n < es.length∧(es.getD n.toNat []).length=esz e∧ea e then some (.pure (.p (.ro (es.getD n.toNat [])))) else none
   | .own m len=>match os m with
    | some (.arr k es)=>if 0≤n∧n < len∧len≤es.length∧k=esz e∧ea e then some (.pure (.eptr m k n.toNat 0)) else none
    | _=>none
   | .csl m off k len=>if 0≤n∧n < len∧k=esz e∧ea e then some (.pure (.ptr m (off+n.toNat * k))) else none
   | _=>none
 | .arr len e,.p (.val (.int _ n))=>match x with
   | .ptr m off=>if 0≤n∧n < len∧ea e then some (.pure (.ptr m (off+n.toNat * esz e))) else none
   | .p (.ro cs)=>if 0≤n∧n < len∧ea e then some (.pure (.p (.ro (cs.drop (n.toNat * esz e))))) else none
   | _=>none
 | _,_=>none
def Ao1 (esz:Nat) (ea:Bool) (m len:Nat) (n:Int):Option AO→Option Eff
 | some (.arr k es)=>if 0≤n∧n < len∧len≤es.length∧k=esz∧ea then some (.pure (.eptr m k n.toNat 0)) else none
 | _=>none
theorem Ap8 {esz:Nat→Nat} {ea:Nat→Bool} {e:Nat} {k:IntKind} {n:Int} {es:List (List PV)}:fIA esz ea os (.p (.sl es)) (.sl e) (.p (.val (.int k n)))=if 0≤n∧n < es.length∧(es.getD n.toNat []).length=esz e∧ea e then some (.pure (.p (.ro (es.getD n.toNat [])))) else none:=rfl
theorem Sz {esz:Nat→Nat} {ea:Nat→Bool} {e m len:Nat} {k:IntKind} {n:Int}:fIA esz ea os (.own m len) (.sl e) (.p (.val (.int k n)))=Ao1 (esz e) (ea e) m len n (os m):=by unfold fIA Ao1; rfl
theorem Akg {esz:Nat} {ea:Bool} {k m len:Nat} {n:Int} {es:List (List PV)}:Ao1 esz ea m len n (some (.arr k es))=if 0≤n∧n < len∧len≤es.length∧k=esz∧ea then some (.pure (.eptr m k n.toNat 0)) else none:=rfl
theorem Amc {esz:Nat→Nat} {ea:Nat→Bool} {e m off k' len:Nat} {k:IntKind} {n:Int}:fIA esz ea os (.csl m off k' len) (.sl e) (.p (.val (.int k n)))=if 0≤n∧n < len∧k'=esz e∧ea e then some (.pure (.ptr m (off+n.toNat * k'))) else none:=rfl
theorem Anw {esz:Nat→Nat} {ea:Nat→Bool} {e m off len:Nat} {k:IntKind} {n:Int}:fIA esz ea os (.ptr m off) (.arr len e) (.p (.val (.int k n)))=if 0≤n∧n < len∧ea e then some (.pure (.ptr m (off+n.toNat * esz e))) else none:=rfl
theorem Afj {esz:Nat→Nat} {ea:Nat→Bool} {e len:Nat} {k:IntKind} {n:Int} {cs:List PV}:fIA esz ea os (.p (.ro cs)) (.arr len e) (.p (.val (.int k n)))=if 0≤n∧n < len∧ea e then some (.pure (.p (.ro (cs.drop (n.toNat * esz e))))) else none:=rfl
theorem X8 {t:TypeId} {x i:Operand}:EO P r N ⟨dst,.indexAddr t x i,ty,pos,after,g⟩ s K=EOp r.b N dst s K (fIA (fun e=>(Ab P e).sz) (fun e=>(Ab P e).agg.isSome) s.o (ev s.t x) (Ab P t).k (ev s.t i)):=by
 refine C9 rfl rfl ?_
 unfold eff fIA
 rfl
def R0 (esz:Nat→Nat) (ea:Nat→Option Bool) (x:AV):TK→AV→Option Eff
 | .arr len e,.p (.val (.int _ n))=>match x,ea e with
  | .agg cs,some g=>if 0≤n∧n < len∧n.toNat * esz e+esz e≤cs.length then (Ay g (esz e) (cs.drop (n.toNat * esz e))).map .pure else none
  | _,_=>none
 | _,_=>none
noncomputable def F3 (P:Program) (t:TypeId) (op:BinOp) (k:TK):AV→AV→Option Eff
 | .p (.val (.bool a)),.p (.val (.bool b))=>match k with
   | .bool=>(Adx op a b).map fun v=>.pure (.p (.val v))
   | _=>none
 | .p (.val a),.p (.val b)=>(J6 op a b).map fun v=>.pure (.p (.val v))
 | .agg cs,.agg ds=>Gd P op t (Ck cs) (Ck ds)
 | _,_=>none
theorem Mj {t:TypeId} {op:BinOp} {k:TK} {cs ds:List AV}:F3 P t op k (.agg cs) (.agg ds)=Gd P op t (Ck cs) (Ck ds):=rfl
theorem Abx:Ck []=some []:=rfl
theorem R7 {n:Int} {r:List AV}:Ck (.p (.val (.int .i64 n)) :: r)=(Ck r).map (n :: ·):=rfl
theorem Ht {t:TypeId} {a b:List Int} (h:Nf P t a.length) (hl:a.length=b.length) (ha:a.all inR=true) (hb:b.all inR=true):Gd P .eql t (some a) (some b)=some (.pure (bl (decide (a=b)))):=by
 unfold Gd; simp only []; rw [if_pos ⟨h,hl,ha,hb⟩]
theorem Aev {t:TypeId} {a b:List Int} (h:Nf P t a.length) (hl:a.length=b.length) (ha:a.all inR=true) (hb:b.all inR=true):Gd P .neq t (some a) (some b)=some (.pure (bl (!decide (a=b)))):=by
 unfold Gd; simp only []; rw [if_pos ⟨h,hl,ha,hb⟩]
theorem Ald {op:BinOp} {t u:TypeId} {x y:Operand}:EO P r N ⟨dst,.binOp op t x y u,ty,pos,after,g⟩ s K=EOp r.b N dst s K (F3 P t op (Ab P t).k (ev s.t x) (ev s.t y)):=by
 exact C9 rfl rfl rfl
theorem Akw {t:TypeId} {k:TK} {a b:Int} {i:IntKind}:F3 P t .add k (.p (.val (.int i a))) (.p (.val (.int i b)))=some (.pure (.p (.val (.int i (i.wrap (a+b)))))):=by simp [F3,J6,Jw]
theorem Ai6 {t:TypeId} {k:TK} {a b:Int} {i:IntKind}:F3 P t .sub k (.p (.val (.int i a))) (.p (.val (.int i b)))=some (.pure (.p (.val (.int i (i.wrap (a - b)))))):=by simp [F3,J6,Jw]
theorem Aiu {t:TypeId} {k:TK} {a b:Int} {i:IntKind}:F3 P t .mul k (.p (.val (.int i a))) (.p (.val (.int i b)))=some (.pure (.p (.val (.int i (i.wrap (a * b)))))):=by simp [F3,J6,Jw]
theorem Alh {t:TypeId} {k:TK} {a b:Int} {i:IntKind}:F3 P t .quo k (.p (.val (.int i a))) (.p (.val (.int i b)))=if b=0 then none else some (.pure (.p (.val (.int i (i.wrap (a.tdiv b)))))):=by simp only [F3,J6,Jw,if_true]; split <;> rfl
theorem Akv {t:TypeId} {k:TK} {a b:Int} {i:IntKind}:F3 P t .rem k (.p (.val (.int i a))) (.p (.val (.int i b)))=if b=0 then none else some (.pure (.p (.val (.int i (a.tmod b))))):=by simp only [F3,J6,Jw,if_true]; split <;> rfl
theorem Ahm {t:TypeId} {k:TK} {a b:Int} {i:IntKind}:F3 P t .eql k (.p (.val (.int i a))) (.p (.val (.int i b)))=some (.pure (bl (decide (a=b)))):=by simp [F3,J6,Jw]; rfl
theorem Ahl {t:TypeId} {k:TK} {a b:Int} {i:IntKind}:F3 P t .neq k (.p (.val (.int i a))) (.p (.val (.int i b)))=some (.pure (bl (decide (a≠b)))):=by simp [F3,J6,Jw,bne]; rfl
theorem Aib {t:TypeId} {k:TK} {a b:Int} {i:IntKind}:F3 P t .lss k (.p (.val (.int i a))) (.p (.val (.int i b)))=some (.pure (bl (decide (a < b)))):=by simp [F3,J6,Jw]
theorem Akj {t:TypeId} {k:TK} {a b:Int} {i:IntKind}:F3 P t .leq k (.p (.val (.int i a))) (.p (.val (.int i b)))=some (.pure (bl (decide (a≤b)))):=by simp [F3,J6,Jw]
theorem Ah8 {t:TypeId} {k:TK} {a b:Int} {i:IntKind}:F3 P t .gtr k (.p (.val (.int i a))) (.p (.val (.int i b)))=some (.pure (bl (decide (b < a)))):=by simp [F3,J6,Jw]
theorem Ah0 {t:TypeId} {k:TK} {a b:Int} {i:IntKind}:F3 P t .geq k (.p (.val (.int i a))) (.p (.val (.int i b)))=some (.pure (bl (decide (b≤a)))):=by simp [F3,J6,Jw]
theorem Ale {t:TypeId} {k:TK} {a b:Int} {i j:IntKind}:F3 P t .shl k (.p (.val (.int i a))) (.p (.val (.int j b)))=if b < 0 then none else some (.pure (.p (.val (.int i (i.wrap (a * 2 ^ (min b.toNat i.bits))))))):=by simp only [F3,J6,Qv]; split <;> rfl
theorem Ajn {t:TypeId} {k:TK} {a b:Int} {i j:IntKind}:F3 P t .shr k (.p (.val (.int i a))) (.p (.val (.int j b)))=if b < 0 then none else some (.pure (.p (.val (.int i (a.fdiv (2 ^ (min b.toNat i.bits))))))):=by simp only [F3,J6,Qv]; split <;> rfl
theorem Ai7 {t:TypeId} {a b:Bool}:F3 P t .eql .bool (bl a) (bl b)=some (.pure (bl (a == b))):=rfl
theorem Als {t:TypeId} {a b:Bool}:F3 P t .neq .bool (bl a) (bl b)=some (.pure (bl (a != b))):=rfl
def fUn:UnOp→AV→Option Eff
  | .not,.p (.val (.bool b))=>some (.pure (.p (.val (.bool !b))))
  | .neg,.p (.val (.int k n))=>some (.pure (.p (.val (.int k (k.wrap (0 - n))))))
  | _,_=>none
theorem Anf {b:Bool}:fUn .not (bl b)=some (.pure (bl !b)):=rfl
theorem Am8 {k:IntKind} {n:Int}:fUn .neg (.p (.val (.int k n)))=some (.pure (.p (.val (.int k (k.wrap (0 - n)))))):=rfl
theorem An6 {op:UnOp} {t:TypeId} {x:Operand}:EO P r N ⟨dst,.unOp op t x,ty,pos,after,g⟩ s K=EOp r.b N dst s K (fUn op (ev s.t x)):=by
 exact C9 rfl rfl rfl
def Aoh (ag:Bool):TK→AV→Option Eff
  | .int k,.p (.val (.int _ n))=>if ag then some (.pure (.p (.val (.int k (k.wrap n))))) else none
  | _,_=>none
theorem Ag6 {ag:Bool} {k i:IntKind} {n:Int}:Aoh ag (.int k) (.p (.val (.int i n)))=if ag then some (.pure (.p (.val (.int k (k.wrap n))))) else none:=rfl
theorem Abv {u t:TypeId} {x:Operand}:EO P r N ⟨dst,.convert u t x,ty,pos,after,g⟩ s K=EOp r.b N dst s K (Aoh (Ab P u).agg.isSome (Ab P t).k (ev s.t x)):=by
 exact C9 rfl rfl rfl
def An1:AV→Option Eff
  | .ptr n off=>some (.pure (.ptr n off))
  | .eptr n k i off=>some (.pure (.eptr n k i off))
  | .p (.ro cs)=>some (.pure (.p (.ro cs)))
  | _=>none
theorem Aiv {n off:Nat}:An1 (.ptr n off)=some (.pure (.ptr n off)):=rfl
theorem Afc {n k i off:Nat}:An1 (.eptr n k i off)=some (.pure (.eptr n k i off)):=rfl
theorem Am5 {cs:List PV}:An1 (.p (.ro cs))=some (.pure (.p (.ro cs))):=rfl
theorem Aa2 {x:Operand}:EO P r N ⟨dst,.nilCheck x,ty,pos,after,g⟩ s K=EOp r.b N dst s K (An1 (ev s.t x)):=by
 exact C9 rfl rfl rfl
def Ax1 (i:Nat):AV→Option Eff
  | .tup vs=>(vs[i]?).map .pure
  | _=>none
theorem Ahu {i:Nat} {vs:List AV}:Ax1 i (.tup vs)=(vs[i]?).map .pure:=rfl
theorem Acs {x:Operand} {i:Nat}:EO P r N ⟨dst,.extract x i,ty,pos,after,g⟩ s K=EOp r.b N dst s K (Ax1 i (ev s.t x)):=by
 exact C9 rfl rfl rfl
theorem Zx {f:Fn} {a b:Array Operand}:EO P r N ⟨dst,.makeFunc f a b,ty,pos,after,g⟩ s K=EOp r.b N dst s K (some (.pure (.fn f (a.toList.map (ev s.t)) (b.toList.map (ev s.t))))):=C9 rfl rfl rfl
def Ag9:TK→AV→Option Eff
 | .sl _,x=>match x with
     | .own _ len=>some (.pure (.p (.val (.int .i64 len))))
     | .csl _ _ _ len=>some (.pure (.p (.val (.int .i64 len))))
     | .p x=>x.list?.map fun es=>.pure (.p (.val (.int .i64 es.length)))
     | _=>none
 | .arr n _,_=>some (.pure (.p (.val (.int .i64 n))))
 | _,_=>none
theorem Ah9 {e n len:Nat}:Ag9 (.sl e) (.own n len)=some (.pure (i64 len)):=rfl
theorem Ait {e n o k len:Nat}:Ag9 (.sl e) (.csl n o k len)=some (.pure (i64 len)):=rfl
theorem Anv {e:Nat} {es:List (List PV)}:Ag9 (.sl e) (.p (.sl es))=some (.pure (i64 es.length)):=rfl
theorem Alt {e:Nat}:Ag9 (.sl e) (.p (.val (.slice none 0 0)))=some (.pure (i64 0)):=rfl
theorem Aks {n e:Nat} {x:AV}:Ag9 (.arr n e) x=some (.pure (i64 n)):=rfl
theorem Apb {t:TypeId} {x:Operand}:EO P r N ⟨dst,.call ⟨.builtin .len,#[x],#[t]⟩,ty,pos,after,g⟩ s K=EOp r.b N dst s K (Ag9 (Ab P t).k (ev s.t x)):=by
 refine C9 rfl rfl ?_
 show (match (Ab P t).k with | .sl _=>_ | .arr n _=>_ | _=>_)=_
 cases (Ab P t).k <;> rfl
def Af3 (d:Nat) (ti:TI) (os:Nat→Option AO) (x:AV):Option (List (List PV))→Option Eff
 | some xs=>if ti.agg.isSome∧(xs.all fun c=>c.length=ti.sz)∧ti.sz=ti.zero.length∧0 < ti.sz∧ti.zero.all Value.oneCell' then
      match x with
      | .p (.val (.slice none 0 0))=>if xs.length * ti.bytes≤140737488355328∧xs.length≤9223372036854775807 then some (.new (.arr ti.sz xs) (.own d xs.length)) else none
      | .own n len=>match os n with
       | some (.arr k es)=>if k=ti.sz∧len=es.length∧(es.length+xs.length) * ti.bytes≤140737488355328∧es.length+xs.length≤9223372036854775807 then some (.app n (.arr k (es++xs)) (.own d (len+xs.length))) else none
       | _=>none
      | _=>none
      else none
 | none=>none
def Ai8 (d n len sz bytes:Nat) (xs:List (List PV)):Option AO→Option Eff
 | some (.arr k es)=>if k=sz∧len=es.length∧(es.length+xs.length) * bytes≤140737488355328∧es.length+xs.length≤9223372036854775807 then some (.app n (.arr k (es++xs)) (.own d (len+xs.length))) else none
 | _=>none
theorem Aj1 {d:Nat} {ti:TI} {xs:List (List PV)}:Af3 d ti os (.p (.val (.slice none 0 0))) (some xs)=if (ti.agg.isSome∧(xs.all fun c=>c.length=ti.sz)∧ti.sz=ti.zero.length∧0 < ti.sz∧ti.zero.all Value.oneCell')∧xs.length * ti.bytes≤140737488355328∧xs.length≤9223372036854775807 then some (.new (.arr ti.sz xs) (.own d xs.length)) else none:=by
 unfold Af3; simp only []
 split
 ·rename_i h
  split
  ·rename_i h2; rw [if_pos ⟨h,h2⟩]
  ·rename_i h2; rw [if_neg (fun hc=>h2 hc.2)]
 ·rename_i h; rw [if_neg (fun hc=>h hc.1)]
theorem Ai2 {d n len:Nat} {ti:TI} {xs:List (List PV)}:Af3 d ti os (.own n len) (some xs)=if (ti.agg.isSome∧(xs.all fun c=>c.length=ti.sz)∧ti.sz=ti.zero.length∧0 < ti.sz∧ti.zero.all Value.oneCell') then Ai8 d n len ti.sz ti.bytes xs (os n) else none:=by
 unfold Af3 Ai8; rfl
theorem Aex {d n len sz bytes k:Nat} {xs es:List (List PV)}:Ai8 d n len sz bytes xs (some (.arr k es))=if k=sz∧len=es.length∧(es.length+xs.length) * bytes≤140737488355328∧es.length+xs.length≤9223372036854775807 then some (.app n (.arr k (es++xs)) (.own d (len+xs.length))) else none:=rfl
def Yd:TK→Option Nat
 | .sl e=>some e
 | _=>none
theorem Agc {e:Nat}:Yd (.sl e)=some e:=rfl
def Aob (P:Program) (d:Nat) (os:Nat→Option AO) (x:AV) (xs:Option (List (List PV))):Option Nat→Option Nat→Option Eff
 | some e,some _=>Af3 d (Ab P e) os x xs
 | _,_=>none
theorem Aca {d e e':Nat} {x:AV} {xs:Option (List (List PV))}:Aob P d os x xs (some e) (some e')=Af3 d (Ab P e) os x xs:=rfl
theorem Agb {t t':TypeId} {x y:Operand}:EO P r N ⟨dst,.call ⟨.builtin .append,#[x,y],#[t,t']⟩,ty,pos,after,g⟩ s K=EOp r.b N dst s K (Aob P (r.b+dst.getD 0) s.o (ev s.t x) (Dd s.o (ev s.t y)) (Yd (Ab P t).k) (Yd (Ab P t').k)):=by
 refine C9 rfl rfl ?_
 show (match (Ab P t).k,(Ab P t').k with | .sl e,.sl _=>_ | _,_=>_)=_
 cases (Ab P t).k <;> cases (Ab P t').k <;> simp only [Yd] <;> rfl
theorem Bbl {x:PV}:Dd os (.p x)=x.list?:=rfl
theorem Am4 {es:List (List PV)}:PV.list? (.sl es)=some es:=rfl
theorem Ahe:PV.list? (.val (.slice none 0 0))=some []:=rfl
theorem Ap1 {a:Array Operand} {ts:Array TypeId}:EO P r N ⟨dst,.call ⟨.builtin .min,a,ts⟩,ty,pos,after,g⟩ s K=EOp r.b N dst s K ((Cn (fun x y=>if y < x then y else x) (a.toList.map (ev s.t))).map fun v=>.pure (.p (.val v))):=C9 rfl rfl rfl
theorem Ap0 {a:Array Operand} {ts:Array TypeId}:EO P r N ⟨dst,.call ⟨.builtin .max,a,ts⟩,ty,pos,after,g⟩ s K=EOp r.b N dst s K ((Cn (fun x y=>if x < y then y else x) (a.toList.map (ev s.t))).map fun v=>.pure (.p (.val v))):=C9 rfl rfl rfl
variable {all rest:List Oper} {o:Oper} {op:Op}
def EK (P:Program) (r:RB) (N:Nat) (all rest:List Oper) (K:St→Prop) (s:St):Prop:=EL P r N all rest s K
theorem Auj {t:Nat→AV} {o:Nat→Option AO}:EK P r N all rest K ⟨t,o⟩=EL P r N all rest ⟨t,o⟩ K:=rfl
theorem ELg:EL P r N all (⟨dst,op,ty,pos,after,none⟩ :: rest) s K=EO P r N ⟨dst,op,ty,pos,after,none⟩ s (EK P r N all rest K):=rfl
theorem Av3:EG P r N all rest o true s K (bl true)=(Cm N o.dst=true∧EO P r N o s (EK P r N all rest K)):=by simp only [EG]; first | (simp; done) | (simp; intro _; rfl)
theorem Aq4:EG P r N all rest o false s K (bl false)=(Cm N o.dst=true∧EO P r N o s (EK P r N all rest K)):=by simp only [EG]; first | (simp; done) | (simp; intro _; rfl)
theorem Asa:EG P r N all rest o true s K (bl false)=(Cm N o.dst=true∧EL P r N all rest (s.put o.dst Dc) K):=by simp only [EG]; first | (simp; done) | (simp; intro _; rfl)
theorem Avk:EG P r N all rest o false s K (bl true)=(Cm N o.dst=true∧EL P r N all rest (s.put o.dst Dc) K):=by simp only [EG]; first | (simp; done) | (simp; intro _; rfl)
theorem B2 {want:Bool} {p:Prop} [Decidable p] (h1:p→EG P r N all rest o want s K (bl true)) (h2:¬ p→EG P r N all rest o want s K (bl false)):EG P r N all rest o want s K (bl (decide p)):=by
 by_cases h:p
 ·rw [decide_eq_true h]; exact h1 h
 ·rw [decide_eq_false h]; exact h2 h
theorem Ba {want b:Bool} (h1:b=true→EG P r N all rest o want s K (bl true)) (h2:b=false→EG P r N all rest o want s K (bl false)):EG P r N all rest o want s K (bl b):=by
 cases b
 ·exact h2 rfl
 ·exact h1 rfl
end
def qop:Op→Bool
 | .move _ | .assign _ | .pick .. | .binOp .. | .unOp .. | .convert .. | .extract .. | .makeFunc .. | .field .. | .index .. | .fieldAddr .. | .nilCheck _ | .load .. | .indexAddr .. | .alloc _ | .box .. | .build .. | .buildSlice .. | .makeSlice ..=>true
 | .slice _ _ _ _ none=>true
 | .slice _ _ _ (some _) (some _)=>true
 | .call ⟨.builtin .len,_,_⟩=>true
 | .call ⟨.builtin .min,_,_⟩=>true
 | .call ⟨.builtin .max,_,_⟩=>true
 | .call ⟨.value (.func _),_,_⟩=>true
 | _=>false
structure Aef (op:Op) (ρ ρ':Operand→AV) (os os':Nat→Option AO):Prop where
 t:∀ x ∈ op.operands.toList,ρ' x=ρ x
 o:∀ x ∈ op.operands.toList,∀ n,(ρ x).clean n=false→os' n=os n
section
variable {P:Program} {d:Nat} {op:Op} {ρ ρ':Operand→AV} {os os':Nat→Option AO}
theorem Mq {ag:Option Bool} {sz:Nat} {x:AV} (h:∀ n,x.clean n=false→os' n=os n):Ec ag sz os' x=Ec ag sz os x:=by
 cases ag with
 | none=>rfl
 | some b=>cases x with
  | ptr n off=>rw [Ek,Ek,h n (by simp [AV.clean])]
  | eptr n k i off=>rw [E2,E2,h n (by simp [AV.clean])]
  | p x=>cases x <;> rfl
  | _=>rfl
theorem Agl {esz:Nat→Nat} {ea:Nat→Bool} {x y:AV} {k:TK} (h:∀ n,x.clean n=false→os' n=os n):fIA esz ea os' x k y=fIA esz ea os x k y:=by
 cases k with
 | sl e=>cases y with
  | p y=>cases y with
   | val v=>cases v with
    | int i n=>cases x with
     | own m len=>rw [Sz,Sz,h m (by simp [AV.clean])]
     | p x=>cases x <;> rfl
     | _=>rfl
    | _=>rfl
   | _=>rfl
  | _=>rfl
 | arr n e=>cases y with
  | p y=>cases y with
   | val v=>cases v with
    | int i n=>cases x with
     | p x=>cases x <;> rfl
     | _=>rfl
    | _=>rfl
   | _=>rfl
  | _=>rfl
 | _=>rfl
theorem J5 {l:List Operand} (h:∀ x ∈ l,ρ' x=ρ x):l.map ρ'=l.map ρ:=List.map_congr_left h
theorem Sj {l:List (Nat × Operand)} (h:∀ p ∈ l,ρ' p.2=ρ p.2):l.map (fun p=>(p.1,ρ' p.2))=l.map (fun p=>(p.1,ρ p.2)):=List.map_congr_left fun p hp=>by rw [h p hp]
theorem Ky (hq:qop op=true) (hg:Ct op=false) (h:Aef op ρ ρ' os os'):eff P d op ρ' os'=eff P d op ρ os:=by
 have ht:=h.t
 have ho:=h.o
 cases op with
 | move x=>show some (Eff.pure (ρ' x))=some (.pure (ρ x)); rw [ht x (by simp [Op.operands])]
 | assign x=>show some (Eff.pure (ρ' x))=some (.pure (ρ x)); rw [ht x (by simp [Op.operands])]
 | pick c a b=>simp only [eff,ht c (by simp [Op.operands]),ht a (by simp [Op.operands]),ht b (by simp [Op.operands])]
 | alloc t=>rfl
 | box t x=>simp only [eff,ht x (by simp [Op.operands])]
 | load t x=>
  have e:∀ (ρ:Operand→AV) os,eff P d (.load t x) ρ os=Ec (Ab P t).agg (Ab P t).sz os (ρ x):=fun _ _=>rfl
  rw [e,e,ht x (by simp [Op.operands]),Mq (ho x (by simp [Op.operands]))]
 | fieldAddr t x f=>simp only [eff,ht x (by simp [Op.operands])]
 | field t x f=>simp only [eff,ht x (by simp [Op.operands])]
 | indexAddr t x i=>
  have e:∀ (ρ:Operand→AV) os,eff P d (.indexAddr t x i) ρ os=fIA (fun e=>(Ab P e).sz) (fun e=>(Ab P e).agg.isSome) os (ρ x) (Ab P t).k (ρ i):=fun _ _=>rfl
  rw [e,e,ht x (by simp [Op.operands]),ht i (by simp [Op.operands]),Agl (ho x (by simp [Op.operands]))]
 | index t x i=>simp only [eff,ht x (by simp [Op.operands]),ht i (by simp [Op.operands])]
 | binOp b t x y u=>simp only [eff,ht x (by simp [Op.operands]),ht y (by simp [Op.operands])]
 | unOp b t x=>simp only [eff,ht x (by simp [Op.operands])]
 | convert u t x=>simp only [eff,ht x (by simp [Op.operands])]
 | nilCheck x=>simp only [eff,ht x (by simp [Op.operands])]
 | extract x i=>simp only [eff,ht x (by simp [Op.operands])]
 | makeFunc f a b=>
  have h1:a.toList.map ρ'=a.toList.map ρ:=J5 fun x hx=>ht x (by simp [Op.operands]; left; simpa using hx)
  have h2:b.toList.map ρ'=b.toList.map ρ:=J5 fun x hx=>ht x (by simp [Op.operands]; right; simpa using hx)
  simp only [eff,h1,h2]
 | build t parts=>
  have h1:=Sj (ρ:=ρ) (ρ':=ρ') (l:=parts.toList) fun p hp=>ht p.2 (by simp [Op.operands]; exact ⟨p.1,by simpa using hp⟩)
  simp only [eff,h1]
 | buildSlice t n parts=>
  have h1:=Sj (ρ:=ρ) (ρ':=ρ') (l:=parts.toList) fun p hp=>ht p.2 (by simp [Op.operands]; exact ⟨p.1,by simpa using hp⟩)
  simp only [eff,h1]
 | makeSlice t l c=>simp only [eff,ht l (by simp [Op.operands]),ht c (by simp [Op.operands])]
 | slice t x lo hi m=>
  cases m with
  | some m=>
   cases hi with
   | none=>simp [qop] at hq
   | some hi=>
    have h0:ρ' x=ρ x:=ht x (by simp [Op.operands])
    have h2:ρ' hi=ρ hi:=ht hi (by simp [Op.operands])
    have h3:ρ' m=ρ m:=ht m (by simp [Op.operands])
    have h1:Bv ρ' 0 lo=Bv ρ 0 lo:=by
     cases lo with
     | none=>rfl
     | some z=>simp only [Bv,ht z (by simp [Op.operands])]
    have h4:Bv ρ' 0 (some hi)=Bv ρ 0 (some hi):=by simp only [Bv,h2]
    have h5:Bv ρ' 0 (some m)=Bv ρ 0 (some m):=by simp only [Bv,h3]
    simp only [eff,h0,h1,h4,h5]
  | none=>
   have hb:∀ (dflt:Nat) (y:Option Operand),(∀ z,y=some z→ρ' z=ρ z)→Bv ρ' dflt y=Bv ρ dflt y:=fun dflt y hy=>by
    cases y with
    | none=>rfl
    | some z=>simp only [Bv,hy z rfl]
   have h0:ρ' x=ρ x:=ht x (by simp [Op.operands])
   have h1:∀ n,Bv ρ' n lo=Bv ρ n lo:=fun n=>hb n lo (fun z hz=>ht z (by subst hz; simp [Op.operands]))
   have h2:∀ n,Bv ρ' n hi=Bv ρ n hi:=fun n=>hb n hi (fun z hz=>ht z (by subst hz; simp [Op.operands]))
   simp only [eff,h0,h1,h2]
 | call c=>
  obtain ⟨callee,args,ts⟩:=c
  have hm:args.toList.map ρ'=args.toList.map ρ:=J5 fun x hx=>ht x (by simp [Op.operands,Call.operands]; right; simpa using hx)
  cases callee with
  | value f=>simp [Ct] at hg
  | invoke r m=>simp [qop] at hq
  | builtin b=>
   cases b <;> first | (simp [qop] at hq; done) | skip
   ·
    simp only [eff]
    cases hts:ts.toList with
    | nil=>rfl
    | cons t r=>cases r with
     | cons _ _=>rfl
     | nil=>cases hargs:args.toList with
      | nil=>rfl
      | cons x r=>cases r with
       | cons _ _=>rfl
       | nil=>
        have e:ρ' x=ρ x:=ht x (by simp [Op.operands,Call.operands]; rw [← Array.mem_toList_iff,hargs]; simp)
        simp only [e]
   ·simp only [eff,hm]
   ·simp only [eff,hm]
 | _=>simp [qop] at hq
end
theorem Ld {s:St} (h:s.closed) (x:Operand):(ev s.t x).lives s.o:=by
 cases x with
 | tmp i=>exact h.1 i
 | const v=>
  simp only [ev]
  cases v <;> first
   | exact AV.lives_p _ _
   | skip
  ·unfold B4
   dsimp only
   split
   ·rw [AV.lives_agg]
    intro i x hi
    simp only [List.getElem?_map,Option.map_eq_some_iff] at hi
    obtain ⟨y,hy,rfl⟩:=hi
    exact AV.lives_p _ _
   ·exact AV.lives_undef _
  ·exact AV.lives_undef _
 | global g=>exact AV.lives_undef _
 | func f=>intro n hn; simp [ev,AV.clean,AV.clean.cleanL] at hn
def Ar0 (os:Nat→Option AO) (d:Nat):Eff→Prop
 | .pure x=>x.lives os
 | .new a x=>a.lives os∧∀ n,x.clean n=false→n=d
 | _=>False
def Mh (os:Nat→Option AO) (d:Nat) (e:Option Eff):Prop:=∀ e',e=some e'→Ar0 os d e'
section
variable {P:Program} {d:Nat} {op:Op} {s:St} {os:Nat→Option AO}
theorem Ah:Mh os d none:=fun e h=>by cases h
theorem Ce {e:Eff} (h:Ar0 os d e):Mh os d (some e):=fun e' h'=>by cases h'; exact h
theorem Cs {c:Prop} [Decidable c] {a b:Option Eff} (h1:c→Mh os d a) (h2:Mh os d b):Mh os d (if c then a else b):=by
 split
 ·exact h1 ‹_›
 ·exact h2
theorem Eu {x:PV}:Mh os d (some (.pure (.p x))):=Ce (AV.lives_p _ _)
theorem Gv {g:Bool} {sz:Nat} {cs:List AV} (h:∀ (i:Nat) (y:AV),cs[i]?=some y→y.lives os):Mh os d ((Ay g sz cs).map .pure):=by
 intro e he
 obtain ⟨x,hx,rfl⟩:=Option.map_eq_some_iff.1 he
 exact Ft h hx
theorem L8 {v:Option Value}:Mh os d (v.map fun v=>.pure (.p (.val v))):=by
 intro e he
 obtain ⟨x,hx,rfl⟩:=Option.map_eq_some_iff.1 he
 exact AV.lives_p _ _
theorem Ue {cs:List PV}:∀ (i:Nat) (y:AV),(cs.map AV.p)[i]?=some y→y.lives os:=by
 intro i y h
 simp only [List.getElem?_map,Option.map_eq_some_iff] at h
 obtain ⟨z,_,rfl⟩:=h
 exact AV.lives_p _ _
theorem Pd {cs:List AV} {k:Nat} (h:∀ (i:Nat) (y:AV),cs[i]?=some y→y.lives os):∀ (i:Nat) (y:AV),(cs.drop k)[i]?=some y→y.lives os:=by
 intro i y hi
 rw [List.getElem?_drop] at hi
 exact h _ y hi
theorem Adr {l:List Operand} (h:s.closed):∀ (i:Nat) (y:AV),(l.map (ev s.t))[i]?=some y→y.lives s.o:=by
 intro i y hi
 simp only [List.getElem?_map,Option.map_eq_some_iff] at hi
 obtain ⟨z,_,rfl⟩:=hi
 exact Ld h z
theorem Gp {x y:AV} (hx:x.lives os) (h:∀ n,y.clean n=false→x.clean n=false):y.lives os:=fun n hn=>hx n (h n hn)
theorem Rs {ag:Option Bool} {sz:Nat} {x:AV} (hc:s.closed):Mh s.o d (Ec ag sz s.o x):=by
 cases ag with
 | none=>exact Ah
 | some b=>cases x with
  | ptr n off=>
   rw [Ek]
   cases hn:s.o n with
   | none=>exact Ah
   | some o=>cases o with
    | cells cs=>exact Gv (Pd (AO.lives_cells.1 (hc.2 n _ hn)))
    | arr k es=>exact Ah
    | obj X=>exact Ah
    | it k X=>exact Ah
    | loop k tm=>exact Ah
  | eptr n k i off=>
   rw [E2]
   cases hn:s.o n with
   | none=>exact Ah
   | some o=>cases o with
    | cells cs=>exact Ah
    | arr k es=>exact Cs (fun _=>Gv Ue) Ah
    | obj X=>exact Ah
    | it k X=>exact Ah
    | loop k tm=>exact Ah
  | p x=>cases x with
   | ro cs=>exact Gv Ue
   | _=>exact Ah
  | _=>exact Ah
theorem Al3 {x:AV} {ft:Nat→Nat} {o:Option (Nat × Nat)} (hx:x.lives os):Mh os d (fFA x ft o):=by
 cases o with
 | none=>exact Ah
 | some p=>
  obtain ⟨o,t⟩:=p
  unfold fFA
  simp only []
  split
  ·exact Ah
  ·cases x with
   | ptr n off=>exact Ce (Gp hx fun m hm=>by simpa [AV.clean] using hm)
   | eptr n k i off=>exact Ce (Gp hx fun m hm=>by simpa [AV.clean] using hm)
   | p x=>cases x with
    | ro cs=>exact Eu
    | _=>exact Ah
   | _=>exact Ah
theorem Amx {esz:Nat→Nat} {ea:Nat→Bool} {x y:AV} {k:TK} (hx:x.lives os):Mh os d (fIA esz ea os x k y):=by
 cases k with
 | sl e=>cases y with
  | p y=>cases y with
   | val v=>cases v with
    | int i n=>cases x with
     | own m len=>
      rw [Sz]
      cases hn:os m with
      | none=>exact Ah
      | some o=>cases o with
       | cells cs=>exact Ah
       | arr k es=>exact Cs (fun _=>Ce (Gp hx fun m hm=>by simpa [AV.clean] using hm)) Ah
       | obj X=>exact Ah
       | it k X=>exact Ah
       | loop k tm=>exact Ah
     | csl m off k len=>exact Cs (fun _=>Ce (Gp hx fun m hm=>by simpa [AV.clean] using hm)) Ah
     | p x=>cases x with
      | sl es=>exact Cs (fun _=>Eu) Ah
      | _=>exact Ah
     | _=>exact Ah
    | _=>exact Ah
   | _=>exact Ah
  | _=>exact Ah
 | arr n e=>cases y with
  | p y=>cases y with
   | val v=>cases v with
    | int i n=>cases x with
     | ptr m off=>exact Cs (fun _=>Ce (Gp hx fun m hm=>by simpa [AV.clean] using hm)) Ah
     | p x=>cases x with
      | ro cs=>exact Cs (fun _=>Eu) Ah
      | _=>exact Ah
     | _=>exact Ah
    | _=>exact Ah
   | _=>exact Ah
  | _=>exact Ah
 | _=>exact Ah
theorem Lz {vs:List Value}:∀ (i:Nat) (y:AV),(E7 vs)[i]?=some y→y.lives os:=J2 os vs
theorem Wl {n d:Nat}:∀ m,(AV.ptr d n).clean m=false→m=d:=fun m hm=>by
 simp only [AV.clean,bne_eq_false_iff_eq] at hm; exact hm.symm
theorem Em {n d:Nat}:∀ m,(AV.own d n).clean m=false→m=d:=fun m hm=>by
 simp only [AV.clean,bne_eq_false_iff_eq] at hm; exact hm.symm
theorem Nc (hq:qop op=true) (hg:Ct op=false) (hc:s.closed):Mh s.o d (eff P d op (ev s.t) s.o):=by
 have hl:=Ld hc
 cases op with
 | move x=>exact Ce (hl x)
 | assign x=>exact Ce (hl x)
 | pick c a b=>
  simp only [eff]
  split
  ·rename_i bb _
   refine Ce ?_
   show (if bb=true then _ else _:AV).lives _
   split
   ·exact hl a
   ·exact hl b
  ·exact Ah
 | alloc t=>exact Cs (fun _=>Ce ⟨AO.lives_cells.2 Lz,Wl⟩) Ah
 | box t x=>
  intro e he
  obtain ⟨cs,hcs,rfl⟩:=Option.map_eq_some_iff.1 he
  exact ⟨AO.lives_cells.2 (Nd (hl x) hcs),Wl⟩
 | load t x=>exact Rs hc
 | fieldAddr t x f=>
  have e:eff P d (.fieldAddr t x f) (ev s.t) s.o=fFA (ev s.t x) (fun t=>(Ab P t).sz) ((Ew (Ab P t).k)[f]?):=by
   cases hk:(Ab P t).k with
   | struct fs=>
    simp only [eff,hk,Ew]
    cases fs[f]? with
    | none=>rfl
    | some p=>rfl
   | _=>simp [eff,hk,Ew,fFA]
  rw [e]
  exact Al3 (hl x)
 | field t x f=>
  simp only [eff]
  split
  ·rename_i fs cs h1 h2
   have hx:=hl x
   rw [h2,AV.lives_agg] at hx
   split
   ·split
    ·exact Cs (fun _=>Gv (Pd hx)) Ah
    ·exact Ah
   ·exact Ah
  ·exact Ah
 | indexAddr t x i=>exact Amx (hl x)
 | index t x i=>
  simp only [eff]
  split
  ·rename_i len e cs k n h1 h2 h3
   have hx:=hl x
   rw [h2,AV.lives_agg] at hx
   split
   ·exact Cs (fun _=>Gv (Pd hx)) Ah
   ·exact Ah
  ·exact Ah
 | binOp b t x y u=>
  simp only [eff]
  split
  ·split
   ·exact L8
   ·exact Ah
  ·exact L8
  ·unfold Gd
   split
   ·split
    ·split
     ·exact Eu
     ·exact Eu
     ·exact Ah
    ·exact Ah
   ·exact Ah
  ·exact Ah
 | unOp b t x=>
  simp only [eff]
  split
  ·exact Eu
  ·exact Eu
  ·exact Ah
 | convert u t x=>
  simp only [eff]
  split
  ·exact Cs (fun _=>Eu) Ah
  ·exact Ah
 | nilCheck x=>
  simp only [eff]
  split
  ·rename_i n off h; rw [← h]; exact Ce (hl x)
  ·rename_i n k i off h; rw [← h]; exact Ce (hl x)
  ·exact Eu
  ·exact Ah
 | extract x i=>
  intro e he
  simp only [eff] at he
  split at he
  ·rename_i vs hv
   obtain ⟨y,hy,rfl⟩:=Option.map_eq_some_iff.1 he
   have hx:=hl x
   rw [hv,AV.lives_tup] at hx
   exact hx _ y hy
  ·cases he
 | makeFunc f a b=>
  refine Ce ?_
  intro n hn
  simp only [AV.clean,Bool.and_eq_false_iff] at hn
  rcases hn with hn | hn
  ·exact AV.lives_cells.1 (Adr hc) n hn
  ·exact AV.lives_cells.1 (Adr hc) n hn
 | build t parts=>
  have hp:∀ p ∈ parts.toList.map (fun p=>(p.1,ev s.t p.2)),(p.2:AV).lives s.o:=fun p hp=>by
   obtain ⟨q,_,rfl⟩:=List.mem_map.1 hp
   exact hl q.2
  simp only [eff]
  refine Cs (fun _=>?_) Ah
  split
  ·split
   ·exact Ah
   ·intro e he
    obtain ⟨cs,hcs,rfl⟩:=Option.map_eq_some_iff.1 he
    exact AV.lives_agg.2 (Ed _ _ _ _ Lz hp hcs)
  ·split
   ·exact Ah
   ·intro e he
    obtain ⟨cs,hcs,rfl⟩:=Option.map_eq_some_iff.1 he
    exact AV.lives_agg.2 (Ed _ _ _ _ Lz hp hcs)
  ·exact Ah
 | buildSlice t n parts=>
  simp only [eff]
  split
  ·split
   ·exact Cs (fun _=>Ce ⟨AO.lives_arr _ _ _,Em⟩) Ah
   ·exact Ah
  ·exact Ah
 | makeSlice t l c=>
  simp only [eff]
  split
  ·exact Cs (fun _=>Ce ⟨AO.lives_arr _ _ _,Em⟩) Ah
  ·exact Ah
 | slice t x lo hi m=>
  cases m with
  | some m=>
   cases hi with
   | none=>simp [qop] at hq
   | some hi=>
    simp only [eff]
    split
    ·split
     ·exact Cs (fun _=>Eu) Ah
     ·exact Ah
    ·exact Ah
  | none=>
   simp only [eff]
   split
   ·split
    ·split
     ·exact Cs (fun _=>Eu) Ah
     ·exact Ah
    ·exact Ah
   ·split
    ·rename_i n off l h h1 _ _
     have hx:=hl x
     rw [h1] at hx
     exact Cs (fun _=>Ce (Gp hx fun m hm=>by simpa [AV.clean] using hm)) Ah
    ·exact Ah
   ·exact Ah
 | call c=>
  obtain ⟨callee,args,ts⟩:=c
  cases callee with
  | value f=>simp [Ct] at hg
  | invoke r m=>simp [qop] at hq
  | builtin b=>
   cases b <;> first | (simp [qop] at hq; done) | skip
   ·simp only [eff]
    split
    ·split
     ·split
      ·exact Eu
      ·exact Eu
      ·intro e he
       obtain ⟨y,_,rfl⟩:=Option.map_eq_some_iff.1 he
       exact AV.lives_p _ _
      ·exact Ah
     ·exact Eu
     ·exact Ah
    ·exact Ah
   ·exact L8
   ·exact L8
 | _=>simp [qop] at hq
end
theorem Sg {os os':Nat→Option AO} {x:AV} (h:∀ n,x.clean n=false→os' n=os n):Fe os' x=Fe os x:=by
 cases x with
 | own n len=>simp only [Fe,Dd,h n (by simp [AV.clean])]
 | csl n off k len=>simp only [Fe,Dd,h n (by simp [AV.clean])]
 | fn f fs cs=>cases fs <;> cases cs <;> rfl
 | _=>rfl
theorem R8 {os os':Nat→Option AO}:∀ {l:List AV},(∀ n,AV.clean.cleanL n l=false→os' n=os n)→H2 os' l=H2 os l
 | [],_=>rfl
 | x :: r,h=>by
  simp only [H2]
  rw [Sg (fun n hn=>h n (by simp [AV.clean.cleanL,hn])),R8 (l:=r) (fun n hn=>h n (by simp [AV.clean.cleanL,hn]))]
theorem Zb {os os':Nat→Option AO} {x:AV} (h:∀ n,x.clean n=false→os' n=os n):Gb os' x=Gb os x:=by
 cases x with
 | agg cs=>simp only [Gb]; rw [R8 (fun n hn=>h n (by simpa [AV.clean] using hn))]
 | _=>exact Sg h
theorem Lx {os os':Nat→Option AO}:∀ {l:List AV},(∀ x ∈ l,∀ n,x.clean n=false→os' n=os n)→D7 os' l=D7 os l
 | [],_=>rfl
 | x :: r,h=>by
  simp only [D7]
  rw [Zb (h x (by simp)),Lx (l:=r) (fun y hy=>h y (by simp [hy]))]
section
variable {P:Program} {r:RB} {nb N:Nat} {all:List Oper}
def ENq (P:Program) (s:St) (k:Nat) (es:List (List PV)):Op→Prop
 | .call ⟨.value (.func f),as,_⟩=>Bs P f=true∧∃ args,D7 s.o (as.toList.map (ev s.t))=some args∧Adg P f args k es
 | _=>False
theorem Ak3 {nb:Nat} {dst:Option Nat} {s:St} {K:St→Prop} {op:Op}:EN P nb dst s K op↔∃ k es d,ENq P s k es op∧dst=some d∧s.o (nb+d)=none∧K ((s.setO (nb+d) (.arr k es)).put dst (.own (nb+d) es.length)):=by
 unfold EN ENq
 split
 ·constructor
  ·rintro ⟨h1,args,k,es,d,h2,h3,h4,h5,h6⟩
   exact ⟨k,es,d,⟨h1,args,h2,h3⟩,h4,h5,h6⟩
  ·rintro ⟨k,es,d,⟨h1,args,h2,h3⟩,h4,h5,h6⟩
   exact ⟨h1,args,k,es,d,h2,h3,h4,h5,h6⟩
 ·simp
def QS (P:Program) (nb:Nat) (o:Oper) (s:St) (x:AV) (ob:Option AO):Prop:=
 if Ct o.op then (ob=none∧EC P s (fun y=>y=x) o.op)∨∃ k es d,ENq P s k es o.op∧o.dst=some d∧s.o (nb+d)=none∧x=.own (nb+d) es.length∧ob=some (.arr k es)
 else (eff P (nb+o.dst.getD 0) o.op (ev s.t) s.o=some (.pure x)∧ob=none)∨∃ a d,eff P (nb+o.dst.getD 0) o.op (ev s.t) s.o=some (.new a x)∧ob=some a∧o.dst=some d∧s.o (nb+d)=none
def C3 (nb:Nat) (dst:Option Nat) (x:AV) (ob:Option AO) (s:St):St:=match ob,dst with
 | some a,some d=>(s.setO (nb+d) a).put (some d) x
 | _,_=>s.put dst x
theorem At0 {op:Op} (h:qop op=true):isM op=false:=by
 cases op <;> first | rfl | (simp [qop] at h)
theorem Afq {op:Op} (h:qop op=true):Ds op=false:=by
 cases op <;> first | rfl | (simp [qop] at h)
theorem Aja {s:St} {K:AV→Prop} {op:Op}:EC P s K op↔∃ x,EC P s (fun y=>y=x) op∧K x:=by
 unfold EC
 split
 ·constructor
  ·rintro ⟨h1,args,res,h2,h3,h4,h5⟩
   exact ⟨res,⟨h1,args,res,h2,h3,h4,rfl⟩,h5⟩
  ·rintro ⟨x,⟨h1,args,res,h2,h3,h4,rfl⟩,h5⟩
   exact ⟨h1,args,res,h2,h3,h4,h5⟩
 ·simp
theorem Zg {o:Oper} {s:St} {K:St→Prop} (hq:qop o.op=true) (hv:isV r.v o.op=false) (hc:s.closed):EO P r N o s K↔Cm N o.dst=true∧∃ x ob,QS P r.b o s x ob∧K (C3 r.b o.dst x ob s):=by
 unfold EO QS
 rw [if_neg (by rw [At0 hq]; simp),if_neg (by rw [hv]; simp)]
 by_cases hg:Ct o.op=true
 ·simp only [hg,if_true]
  constructor
  ·rintro ⟨h1,h2⟩
   rcases h2 with h2 | h2
   ·obtain ⟨x,h3,h4⟩:=Aja.1 h2
    exact ⟨h1,x,none,.inl ⟨rfl,h3⟩,h4⟩
   ·obtain ⟨k,es,d,h3,h4,h5,h6⟩:=Ak3.1 h2
    exact ⟨h1,_,_,.inr ⟨k,es,d,h3,h4,h5,rfl,rfl⟩,by rw [h4] at h6 ⊢; exact h6⟩
  ·rintro ⟨h1,x,ob,h2,h4⟩
   rcases h2 with ⟨rfl,h3⟩ | ⟨k,es,d,h3,h5,h6,rfl,rfl⟩
   ·exact ⟨h1,.inl (Aja.2 ⟨x,h3,h4⟩)⟩
   ·exact ⟨h1,.inr (Ak3.2 ⟨k,es,d,h3,h5,h6,by rw [h5] at h4 ⊢; exact h4⟩)⟩
 ·have hg':Ct o.op=false:=by simpa using hg
  have hgd:=Nc (P:=P) (d:=r.b+o.dst.getD 0) hq hg' hc
  simp only [hg',Bool.false_eq_true,if_false,Afq hq,true_and]
  constructor
  ·rintro ⟨h1,h2⟩
   refine ⟨h1,?_⟩
   cases he:eff P (r.b+o.dst.getD 0) o.op (ev s.t) s.o with
   | none=>rw [he] at h2; exact h2.elim
   | some e=>
    rw [he] at h2
    have hgd:=hgd e he
    cases e with
    | pure x=>exact ⟨x,none,.inl ⟨rfl,rfl⟩,h2⟩
    | new a x=>
     cases hd:o.dst with
     | none=>rw [hd] at h2; exact h2.elim
     | some d=>
      rw [hd] at h2
      simp only [EA,Eff.apply] at h2
      cases hb:(s.o (r.b+d)).isNone with
      | false=>simp [hb] at h2
      | true=>
       simp only [hb,if_true] at h2
       simp only [Option.isNone_iff_eq_none] at hb
       exact ⟨x,some a,.inr ⟨a,d,rfl,rfl,rfl,hb⟩,h2⟩
    | upd n o=>exact hgd.elim
    | app n o x=>exact hgd.elim
  ·rintro ⟨h1,x,ob,h2 | h2,h3⟩
   ·obtain ⟨h2,rfl⟩:=h2
    exact ⟨h1,by rw [h2]; exact h3⟩
   ·obtain ⟨a,d,h2,rfl,hd,h4⟩:=h2
    refine ⟨h1,?_⟩
    rw [h2,hd]
    simp only [EA,Eff.apply,h4,Option.isNone_none,if_true]
    rw [hd] at h3
    exact h3
def GS (P:Program) (nb:Nat) (all:List Oper) (o:Oper) (s:St) (x:AV) (ob:Option AO):Prop:=match o.guard with
 | none=>QS P nb o s x ob
 | some (j,want)=>match M3 ((Kk all j).elim .undef s.t) with
  | some g=>if g=some want then QS P nb o s x ob else x=Dc∧ob=none
  | none=>False
theorem E1 {o:Oper} {rest:List Oper} {s:St} {K:St→Prop} (hq:qop o.op=true) (hv:isV r.v o.op=false) (hc:s.closed):EL P r N all (o :: rest) s K↔Cm N o.dst=true∧∃ x ob,GS P r.b all o s x ob∧EL P r N all rest (C3 r.b o.dst x ob s) K:=by
 obtain ⟨dst,op,ty,pos,after,g⟩:=o
 cases g with
 | none=>exact Zg (r:=r) hq hv hc
 | some g=>
  obtain ⟨j,want⟩:=g
  rw [Aol]
  simp only [GS]
  generalize (Kk all j).elim .undef s.t=v
  unfold EG M3
  split
  ·rename_i b
   simp only []
   rw [Zg hq hv hc]
   have e:∀ K':St→Prop,(∃ x ob,(x=Dc∧ob=none)∧K' (C3 r.b dst x ob s))↔K' (s.put dst Dc):=fun K'=>
    ⟨fun ⟨x,ob,⟨h1,h2⟩,h3⟩=>by subst h1 h2; exact h3,fun h=>⟨Dc,none,⟨rfl,rfl⟩,h⟩⟩
   have e':=e (fun s'=>EL P r N all rest s' K)
   cases b <;> cases want <;> simp only [Bool.not_true,Bool.not_false,Bool.true_eq_false,Bool.false_eq_true,Option.some.injEq,if_true,if_false,false_implies,forall_const,true_and,and_true,e'] <;> constructor <;> intro h
   all_goals first | exact h | exact ⟨h.1,h.2.1,h.2⟩ | exact ⟨h.1,h.2.2⟩ | exact ⟨h.1,h.1,h.2⟩
  ·constructor
   ·rintro ⟨h1,h2⟩
    exact ⟨h1,Dc,none,by simp,h2⟩
   ·rintro ⟨h1,x,ob,h2,h3⟩
    simp at h2
    obtain ⟨rfl,rfl⟩:=h2
    exact ⟨h1,h3⟩
  ·simp
theorem C6 {s:St} (hc:s.closed) {dst:Option Nat} {x:AV} (hx:x.lives s.o):(s.put dst x).closed:=by
 cases dst with
 | none=>exact hc
 | some d=>
  refine ⟨fun i=>?_,hc.2⟩
  show (upd s.t d x i).lives s.o
  unfold upd
  split
  ·exact hx
  ·exact hc.1 i
theorem Dt {s:St} (hc:s.closed) {d:Nat} {k:Option Nat} {a:AO} {x:AV} (ha:a.lives s.o) (hx:∀ n,x.clean n=false→n=d):((s.setO d a).put k x).closed:=by
 have hm:∀ n,(s.o n).isSome=true→((s.setO d a).o n).isSome=true:=fun n hn=>by
  show (upd s.o d (some a) n).isSome=true
  unfold upd; split
  ·rfl
  ·exact hn
 have h1:(s.setO d a).closed:=by
  refine ⟨fun i=>AV.lives_mono hm (hc.1 i),fun m o ho=>?_⟩
  have ho:upd s.o d (some a) m=some o:=ho
  unfold upd at ho
  split at ho
  ·cases ho; exact AO.lives_mono hm ha
  ·exact AO.lives_mono hm (hc.2 m o ho)
 exact C6 h1 (fun n hn=>by rw [hx n hn]; show (upd s.o d (some a) d).isSome=true; simp)
theorem Kj {o:Oper} {s:St} {x:AV} {ob:Option AO} (hq:qop o.op=true) (hc:s.closed) (h:GS P nb all o s x ob):(C3 nb o.dst x ob s).closed:=by
 have hQ:QS P nb o s x ob→(C3 nb o.dst x ob s).closed:=by
  clear h
  intro h
  unfold QS at h
  split at h
  ·rcases h with ⟨rfl,h⟩ | ⟨k,es,d,h3,h5,h6,rfl,rfl⟩
   ·unfold EC at h
    split at h
    ·obtain ⟨_,args,res,_,h3,_,rfl⟩:=h
     exact C6 hc (Cy _ h3.1)
    ·exact h.elim
   ·simp only [C3,h5]
    exact Dt hc (AO.lives_arr _ _ _) (fun n hn=>by simpa [AV.clean] using Eq.symm (by simpa [AV.clean] using hn))
  ·rename_i hg
   have hgd:=Nc (P:=P) (d:=nb+o.dst.getD 0) hq (by simpa using hg) hc
   rcases h with ⟨h,rfl⟩ | ⟨a,d,h,rfl,hd,h4⟩
   ·exact C6 hc (hgd _ h)
   ·obtain ⟨h5,h6⟩:=hgd _ h
    simp only [C3,hd]
    rw [hd] at h6
    exact Dt hc h5 h6
 unfold GS at h
 split at h
 ·exact hQ h
 ·split at h
  ·split at h
   ·exact hQ h
   ·obtain ⟨rfl,rfl⟩:=h
    exact C6 hc (fun n hn=>by simp [Dc,AV.clean,AV.clean.cleanL] at hn)
  ·exact h.elim
structure Amk (nb:Nat) (all:List Oper) (o:Oper) (s s':St):Prop where
 t:∀ t ∈ o.looksAt all.toArray,s'.t t=s.t t
 ob:∀ t ∈ o.looksAt all.toArray,∀ n,(s.t t).clean n=false→s'.o n=s.o n
 f:∀ d,o.dst=some d→s.o (nb+d)=none→s'.o (nb+d)=none
theorem Zh {t:Nat→AV} {x:Operand} {n:Nat} (h:(ev t x).clean n=false):∃ i,x=.tmp i:=by
 cases x with
 | tmp i=>exact ⟨i,rfl⟩
 | const v=>
  exfalso
  simp only [ev] at h
  cases v <;> first
   | (simp [B4,AV.clean] at h; done)
   | skip
  unfold B4 at h
  dsimp only at h
  split at h
  ·simp only [AV.clean] at h
   rw [(B0 n _).2 (fun i x hi=>by
    simp only [List.getElem?_map,Option.map_eq_some_iff] at hi
    obtain ⟨y,_,rfl⟩:=hi
    rfl)] at h
   cases h
  ·simp [AV.clean] at h
 | global g=>simp [ev,AV.clean] at h
 | func f=>simp [ev,AV.clean,AV.clean.cleanL] at h
theorem Amk.agree {o:Oper} {s s':St} (h:Amk nb all o s s'):Aef o.op (ev s.t) (ev s'.t) s.o s'.o:=by
 have hl:∀ x ∈ o.op.operands.toList,∀ i,x=.tmp i→i ∈ o.looksAt all.toArray:=fun x hx i hi=>by
  subst hi
  exact List.mem_append_left _ (List.mem_filterMap.2 ⟨.tmp i,hx,rfl⟩)
 refine ⟨fun x hx=>?_,fun x hx n hn=>?_⟩
 ·cases x with
  | tmp i=>exact h.t i (hl _ hx i rfl)
  | _=>rfl
 ·obtain ⟨i,rfl⟩:=Zh hn
  exact h.ob i (hl _ hx i rfl) n hn
theorem Aih {s s':St} {K:AV→Prop} {op:Op} (h:Aef op (ev s.t) (ev s'.t) s.o s'.o) (hE:EC P s K op):EC P s' K op:=by
 unfold EC at hE ⊢
 split at hE
 ·rename_i f as ts
  obtain ⟨h1,args,res,h2,h3,h4,h5⟩:=hE
  have hmem:∀ x ∈ as.toList,x ∈ (Op.call ⟨.value (.func f),as,ts⟩).operands.toList:=fun x hx=>by
   simp [Op.operands,Call.operands]; right; simpa using hx
  have hm:as.toList.map (ev s'.t)=as.toList.map (ev s.t):=List.map_congr_left fun x hx=>h.t x (hmem x hx)
  refine ⟨h1,args,res,?_,h3,by rw [hm]; exact h4,h5⟩
  rw [hm,Lx (fun y hy n hn=>?_)]
  ·exact h2
  ·obtain ⟨x,hx,rfl⟩:=List.mem_map.1 hy
   exact h.o x (hmem x hx) n hn
 ·exact hE.elim
theorem Aha {s s':St} {k:Nat} {es:List (List PV)} {op:Op} (h:Aef op (ev s.t) (ev s'.t) s.o s'.o) (hE:ENq P s k es op):ENq P s' k es op:=by
 unfold ENq at hE ⊢
 split at hE
 ·rename_i f as ts
  obtain ⟨h1,args,h2,h3⟩:=hE
  have hmem:∀ x ∈ as.toList,x ∈ (Op.call ⟨.value (.func f),as,ts⟩).operands.toList:=fun x hx=>by
   simp [Op.operands,Call.operands]; right; simpa using hx
  have hm:as.toList.map (ev s'.t)=as.toList.map (ev s.t):=List.map_congr_left fun x hx=>h.t x (hmem x hx)
  refine ⟨h1,args,?_,h3⟩
  rw [hm,Lx (fun y hy n hn=>?_)]
  ·exact h2
  ·obtain ⟨x,hx,rfl⟩:=List.mem_map.1 hy
   exact h.o x (hmem x hx) n hn
 ·exact hE.elim
theorem My {o:Oper} {s s':St} {x:AV} {ob:Option AO} (hq:qop o.op=true) (hn:Amk nb all o s s') (h:GS P nb all o s x ob):GS P nb all o s' x ob:=by
 have ha:=hn.agree
 have hQ:QS P nb o s x ob→QS P nb o s' x ob:=by
  intro h
  unfold QS at h ⊢
  split at h
  ·rename_i hg
   rw [if_pos hg]
   rcases h with h | ⟨k,es,d,h3,h5,h6,h7,h8⟩
   ·exact .inl ⟨h.1,Aih ha h.2⟩
   ·exact .inr ⟨k,es,d,Aha ha h3,h5,hn.f d h5 h6,h7,h8⟩
  ·rename_i hg
   rw [if_neg hg]
   have e:=Ky (P:=P) (d:=nb+o.dst.getD 0) hq (by simpa using hg) ha
   rw [e]
   rcases h with h | ⟨a,d,h1,h2,h3,h4⟩
   ·exact .inl h
   ·exact .inr ⟨a,d,h1,h2,h3,hn.f d h3 h4⟩
 unfold GS at h ⊢
 split
 ·rename_i hg
  rw [hg] at h
  exact hQ h
 ·rename_i j want hg
  rw [hg] at h
  simp only [] at h
  have e:(Kk all j).elim AV.undef s'.t=(Kk all j).elim .undef s.t:=by
   cases hd:Kk all j with
   | none=>rfl
   | some t=>
    refine hn.t t (List.mem_append_right _ ?_)
    rw [hg]
    simp only []
    have:(all.toArray[j]?).bind (·.dst)=some t:=by simpa [Kk] using hd
    rw [this]; simp
  rw [e]
  split
  ·rename_i g hgv
   rw [hgv] at h
   simp only [] at h
   split
   ·rename_i hw; rw [if_pos hw] at h; exact hQ h
   ·rename_i hw; rw [if_neg hw] at h; exact h
  ·rename_i hgv
   rw [hgv] at h
   exact h
theorem Hq {dst:Option Nat} {x:AV} {ob:Option AO} {s:St} {i:Nat} (h:dst≠some i):(C3 nb dst x ob s).t i=s.t i:=by
 unfold C3
 cases dst with
 | none=>cases ob <;> rfl
 | some d=>
  have hne:i≠d:=fun e=>h (by rw [e])
  cases ob with
  | none=>exact Ao hne
  | some a=>exact Ao hne
theorem Nr {dst:Option Nat} {x:AV} {ob:Option AO} {s:St} {n:Nat} (h:(∀ d,dst=some d→nb+d≠n)∨ob=none):(C3 nb dst x ob s).o n=s.o n:=by
 unfold C3
 cases dst with
 | none=>cases ob <;> rfl
 | some d=>
  cases ob with
  | none=>rfl
  | some a=>
   rcases h with h | h
   ·exact Ao (fun e=>h d rfl e.symm)
   ·cases h
theorem Yo {o:Oper} {s:St} {x:AV} {a:AO} (h:GS P nb all o s x (some a)):∃ d,o.dst=some d∧s.o (nb+d)=none:=by
 have hQ:QS P nb o s x (some a)→∃ d,o.dst=some d∧s.o (nb+d)=none:=by
  intro h
  unfold QS at h
  split at h
  ·rcases h with h | ⟨k,es,d,_,h3,h4,_,_⟩
   ·cases h.1
   ·exact ⟨d,h3,h4⟩
  ·rcases h with h | ⟨a',d,_,_,h3,h4⟩
   ·cases h.2
   ·exact ⟨d,h3,h4⟩
 unfold GS at h
 split at h
 ·exact hQ h
 ·split at h
  ·split at h
   ·exact hQ h
   ·cases h.2
  ·exact h.elim
theorem Pp {d1 d2:Option Nat} {x1 x2:AV} {ob1 ob2:Option AO} {s:St} (h:∀ d,d1=some d→d2≠some d):C3 nb d1 x1 ob1 (C3 nb d2 x2 ob2 s)=C3 nb d2 x2 ob2 (C3 nb d1 x1 ob1 s):=by
 cases d1 with
 | none=>cases d2 <;> cases ob1 <;> cases ob2 <;> rfl
 | some d1=>cases d2 with
  | none=>cases ob1 <;> cases ob2 <;> rfl
  | some d2=>
   have hne:d1≠d2:=fun e=>h d1 rfl (by rw [e])
   have hc:∀ {α:Type} (f:Nat→α) (u v:α),upd (upd f d2 v) d1 u=upd (upd f d1 u) d2 v:=fun f u v=>by
    funext i
    unfold upd
    by_cases h1:i=d1
    ·subst h1; simp [hne]
    ·simp [h1]
   have hc2:∀ {α:Type} (f:Nat→α) (u v:α),upd (upd f (nb+d2) v) (nb+d1) u=upd (upd f (nb+d1) u) (nb+d2) v:=fun f u v=>by
    funext i
    unfold upd
    by_cases h1:i=nb+d1
    ·subst h1; simp [hne]
    ·simp [h1]
   cases ob1 <;> cases ob2 <;> simp only [C3,St.put,St.setO,hc,hc2]
theorem Acf {o1 o2:Oper} {s:St} {x1 x2:AV} {ob1 ob2:Option AO} (hq1:qop o1.op=true) (hq2:qop o2.op=true) (hap:o1.apart all.toArray o2=true) (hc:s.closed)
  (h1:GS P nb all o1 s x1 ob1) (h2:GS P nb all o2 (C3 nb o1.dst x1 ob1 s) x2 ob2):GS P nb all o2 s x2 ob2∧GS P nb all o1 (C3 nb o2.dst x2 ob2 s) x1 ob1∧C3 nb o1.dst x1 ob1 (C3 nb o2.dst x2 ob2 s)=C3 nb o2.dst x2 ob2 (C3 nb o1.dst x1 ob1 s):=by
 obtain ⟨a1,a2,a3⟩:=Oper.apart_spec hap
 have hdt:∀ t ∈ o2.looksAt all.toArray,o1.dst≠some t:=fun t ht e=>a1 t e ht
 have hdt2:∀ t ∈ o1.looksAt all.toArray,o2.dst≠some t:=fun t ht e=>a3 t e ht
 have hnew:∀ n,(s.o n).isSome=true→(∀ d,o1.dst=some d→nb+d≠n)∨ob1=none:=fun n hn=>by
  cases ob1 with
  | none=>exact .inr rfl
  | some a=>
   obtain ⟨d,hd,hnone⟩:=Yo h1
   refine .inl fun e he en=>?_
   rw [hd] at he; cases he; subst en; rw [hnone] at hn; cases hn
 have h2':GS P nb all o2 s x2 ob2:=by
  refine My hq2 ⟨fun t ht=>(Hq (hdt t ht)).symm,fun t ht n hn=>?_,fun d hd hnone=>?_⟩ h2
  ·rw [Hq (hdt t ht)] at hn
   exact (Nr (hnew n (hc.1 t n hn))).symm
  ·cases hs:s.o (nb+d) with
   | none=>rfl
   | some o=>rw [Nr (hnew (nb+d) (by rw [hs]; rfl)),hs] at hnone; cases hnone
 have hnew2:∀ n,(s.o n).isSome=true→(∀ d,o2.dst=some d→nb+d≠n)∨ob2=none:=fun n hn=>by
  cases ob2 with
  | none=>exact .inr rfl
  | some a=>
   obtain ⟨d,hd,hnone⟩:=Yo h2'
   refine .inl fun e he en=>?_
   rw [hd] at he; cases he; subst en; rw [hnone] at hn; cases hn
 refine ⟨h2',My hq1 ⟨fun t ht=>Hq (hdt2 t ht),fun t ht n hn=>Nr (hnew2 n (hc.1 t n hn)),fun d hd hnone=>?_⟩ h1,Pp a2⟩
 rw [Nr (.inl (fun e he en=>by
  have e1:e=d:=by omega
  subst e1
  exact a2 e hd he))]
 exact hnone
def Jn (P:Program) (r:RB) (N:Nat) (all:List Oper) (o:Oper):Prop:=
 ∀ l l' s K,s.closed→(∀ s1,s1.closed→EL P r N all l s1 K→EL P r N all l' s1 K)→EL P r N all (o :: l) s K→EL P r N all (o :: l') s K
def G5 (P:Program) (r:RB) (N:Nat) (all:List Oper) (i j:Oper):Prop:=
 ∀ l s K,s.closed→EL P r N all (i :: j :: l) s K→EL P r N all (j :: i :: l) s K
theorem D2 {o:Oper} (hq:qop o.op=true) (hv:isV r.v o.op=false):Jn P r N all o:=by
 intro l l' s K hc h hE
 rw [E1 hq hv hc] at hE ⊢
 obtain ⟨h1,x,ob,h2,h3⟩:=hE
 exact ⟨h1,x,ob,h2,h _ (Kj hq hc h2) h3⟩
theorem Zj {i j:Oper} (hi:qop i.op=true) (hj:qop j.op=true) (hiv:isV r.v i.op=false) (hjv:isV r.v j.op=false) (hap:i.apart all.toArray j=true):G5 P r N all i j:=by
 intro l s K hc hE
 rw [E1 hi hiv hc] at hE
 obtain ⟨h1,x,ob,h2,h3⟩:=hE
 rw [E1 hj hjv (Kj hi hc h2)] at h3
 obtain ⟨h4,x',ob',h5,h6⟩:=h3
 obtain ⟨g1,g2,g3⟩:=Acf hi hj hap hc h2 h5
 rw [E1 hj hjv hc]
 refine ⟨h4,x',ob',g1,?_⟩
 rw [E1 hi hiv (Kj hj hc g1)]
 exact ⟨h1,x,ob,g2,by rw [g3]; exact h6⟩
theorem Ah6 {j:Oper} {post:List Oper} {K:St→Prop}:∀ {pre:List Oper} {s:St},s.closed→(∀ i ∈ pre,Jn P r N all i∧G5 P r N all i j)→EL P r N all (pre++j :: post) s K→EL P r N all (j :: (pre++post)) s K
 | [],_,_,_,h=>h
 | i :: pre,s,hc,hp,h=>by
  have hi:=hp i (by simp)
  exact hi.2 _ s K hc (hi.1 _ _ s K hc (fun s1 hc1 h1=>Ah6 hc1 (fun k hk=>hp k (by simp [hk])) h1) h)
end
section
variable {P:Program} {r:RB} {N:Nat} {ops:List Oper}
theorem Ad3 {o:Oper} {l:List Oper} {s:St} {K:St→Prop} {i:Nat} {B:Nat} {S:Nat→Prop} {θ:Nat→Loc} {M:Nat→Prop} {w:World} {a:Act} {Q:Exit→Act→World→Prop}
  (hi:ops[i]?=some o) (hs:Av N B S θ M w s a) (h:EL P r N ops (o :: l) s K) :
  wpOpIn (Wd r.rd) 0 P ops.toArray Q i (fun a' w'=>∃ s1,EL P r N ops l s1 K∧Fin r N B S θ M w a s1 a' w') a w:=by
 have hi':ops.toArray[i]?=some o:=by simpa using hi
 unfold wpOpIn
 simp only [hi']
 obtain ⟨dst,op,ty,pos,after,g⟩:=o
 cases g with
 | none=>
  have hw:Region.wanted (⟨dst,op,ty,pos,after,none⟩:Oper) (yielded ops.toArray a.tmps)=true:=rfl
  rw [if_pos hw]
  exact Jb h B S θ M w a Q hs
 | some g=>
  obtain ⟨j,want⟩:=g
  simp only [EL] at h
  split at h
  ·exact h.elim
  ·rename_i t ht
   have skip:Cm N dst=true→EL P r N ops l (s.put dst Dc) K→∃ s1,EL P r N ops l s1 K∧Fin r N B S θ M w a s1 (a.put dst undef) w:=fun hd h=>
    ⟨_,h,(Adv.put hs (Cw hd) (.tup [] #[] rfl (fun i x h=>by simp at h)) (fun n hn=>by simp [AV.clean,AV.clean.cleanL] at hn)).toM,by cases dst <;> rfl⟩
   split at h
   ·rename_i b hb
    obtain ⟨h1,h2,h3⟩:=h
    have hy:yielded ops.toArray a.tmps j=some b:=Lp ht (g:=some b) (by rw [hb]; rfl) hs
    simp only [Region.wanted,hy]
    by_cases e:b=want
    ·subst e
     simp only [beq_self_eq_true,if_true]
     exact Jb (h2 rfl) B S θ M w a Q hs
    ·have:(some b == some want)=false:=by simpa using e
     simp only [this,Bool.false_eq_true,if_false]
     exact ⟨fun _ _=>trivial,skip h1 (h3 (by cases b <;> cases want <;> simp_all))⟩
   ·rename_i hb
    have hy:yielded ops.toArray a.tmps j=none:=Lp ht (g:=none) (by rw [hb]; rfl) hs
    simp only [Region.wanted,hy]
    have:((none:Option Bool) == some want)=false:=by simp
    simp only [this,Bool.false_eq_true,if_false]
    exact ⟨fun _ _=>trivial,skip h.1 h.2⟩
   ·exact h.elim
def Di (n:Nat) (listed:Array Bool):List Nat:=(List.range n).filter fun i=>!listed.getD i true
theorem Fp {n i:Nat} {listed:Array Bool}:i ∈ Di n listed↔i < n∧listed.getD i true=false:=by simp [Di]
theorem N8 {n i:Nat} {listed:Array Bool} (hs:listed.size=n) (hi:i ∈ Di n listed) :
  ∃ pre post,Di n listed=pre++i :: post∧(∀ j ∈ pre,j < i)∧Di n (listed.setIfInBounds i true)=pre++post:=by
 have hsort:(Di n listed).Pairwise (· < ·):=(List.pairwise_lt_range).filter _
 have hin:=(Fp.1 hi).1
 obtain ⟨pre,post,he⟩:=List.append_of_mem hi
 rw [he,List.pairwise_append] at hsort
 obtain ⟨h1,h2,h3⟩:=hsort
 refine ⟨pre,post,he,fun j hj=>h3 j hj i (by simp),?_⟩
 have e:Di n (listed.setIfInBounds i true)=(Di n listed).filter (fun j=>j != i):=by
  unfold Di
  rw [List.filter_filter]
  apply List.filter_congr
  intro j hj
  have hjn:j < n:=by simpa using hj
  by_cases hji:j=i
  ·subst hji
   simp [Array.getD_eq_getD_getElem?,hs,hjn]
  ·simp [Array.getD_eq_getD_getElem?,hji,Ne.symm hji]
 rw [e,he,List.filter_append,List.filter_cons]
 simp only [bne_self_eq_false,Bool.false_eq_true,if_false]
 rw [List.filter_eq_self.2,List.filter_eq_self.2]
 ·intro j hj
  have:=(List.pairwise_cons.1 h2).1 j hj
  simp; omega
 ·intro j hj
  have:=h3 j hj i (by simp)
  simp; omega
theorem Fb {n i:Nat} {listed:Array Bool} (hn:ops.length=n):i ∈ Region.ready .any ops.toArray listed↔i ∈ Di n listed∧∃ o,ops[i]?=some o∧∀ e ∈ o.after.toList,Region.binds .any e=true→listed.getD e.on false=true:=by
 subst hn
 simp only [Region.ready,List.mem_filter,Di]
 constructor
 ·rintro ⟨h1,h2⟩
  simp only [List.size_toArray] at h1
  simp only [Bool.and_eq_true] at h2
  refine ⟨⟨h1,h2.1⟩,?_⟩
  have h3:=h2.2
  cases ho:ops[i]? with
  | none=>simp [ho] at h3
  | some o=>
   refine ⟨o,rfl,fun e he hb=>?_⟩
   have:(o.after.all fun e=>!Region.binds .any e||listed.getD e.on false)=true:=by simpa [ho] using h3
   rw [← Array.all_toList,List.all_eq_true] at this
   have:=this e he
   simpa [hb] using this
 ·rintro ⟨⟨h1,h2⟩,o,ho,h3⟩
  simp only [List.size_toArray,h1,Bool.and_eq_true,true_and]
  refine ⟨h2,?_⟩
  have:(o.after.all fun e=>!Region.binds .any e||listed.getD e.on false)=true:=by
   rw [← Array.all_toList,List.all_eq_true]
   intro e he
   cases hb:Region.binds .any e with
   | false=>simp
   | true=>simpa using h3 e he hb
  simpa [ho] using this
structure Wp (ops:List Oper) (b:Nat→Nat):Prop where
 lt:∀ (i:Nat) (o:Oper),ops[i]?=some o→∀ e ∈ o.after.toList,Region.binds .any e=true→e.on < i
 why:∀ (i j:Nat) (o:Oper),ops[i]?=some o→j < i→(b i).testBit j=true→∃ e ∈ o.after.toList,Region.binds .any e=true∧(e.on=j∨(b e.on).testBit j=true∧j < e.on)
def Tc (ops:List Oper) (listed:Array Bool):Prop:=∀ (k:Nat) (o:Oper),ops[k]?=some o→listed.getD k false=true→∀ e ∈ o.after.toList,Region.binds .any e=true→listed.getD e.on false=true
theorem Lu {b:Nat→Nat} (hb:Wp ops b) {listed:Array Bool} (hc:Tc ops listed) {j:Nat}:∀ (k:Nat) (o:Oper),ops[k]?=some o→(∀ e ∈ o.after.toList,Region.binds .any e=true→listed.getD e.on false=true)→j < k→(b k).testBit j=true→listed.getD j false=true:=by
 intro k
 induction k using Nat.strongRecOn with
 | _ k ih=>
  intro o ho hr hjk ht
  obtain ⟨e,he,hbe,h | ⟨h,hj⟩⟩:=hb.why k j o ho hjk ht
  ·rw [← h]; exact hr e he hbe
  ·have hl:=hr e he hbe
   have hlt:=hb.lt k o ho e he hbe
   have:e.on < ops.length:=Nat.lt_trans hlt (List.getElem?_eq_some_iff.1 ho).1
   obtain ⟨o',ho'⟩:∃ o',ops[e.on]?=some o':=⟨ops[e.on],by simp [this]⟩
   exact ih e.on hlt o' ho' (hc e.on o' ho' hl) hj h
theorem Xy {listed:Array Bool} {i:Nat} (h:listed.getD i true=false):listed.getD i false=false:=by
 rw [Array.getD_eq_getD_getElem?] at h ⊢
 cases hx:listed[i]? with
 | none=>rfl
 | some x=>rw [hx] at h; simpa using h
theorem Aie {b:Nat→Nat} (hb:Wp ops b)
  (hsw:∀ (i j:Nat) (oi oj:Oper),j < i→ops[i]?=some oi→ops[j]?=some oj→(b i).testBit j=false→Jn P r N ops oj∧G5 P r N ops oj oi)
  {K:St→Prop} {Q:Exit→Act→World→Prop} :
  ∀ (fuel:Nat) (listed:Array Bool) (s:St) (B:Nat) (S:Nat→Prop) (θ:Nat→Loc) (M:Nat→Prop) (w:World) (a:Act),Av N B S θ M w s a→listed.size=ops.length→Tc ops listed→(Di ops.length listed).length≤fuel →
   EL P r N ops ((Di ops.length listed).filterMap (ops[·]?)) s K→(∀ s' a' w',K s'→Fin r N B S θ M w a s' a' w'→Q .normal a' w')→wpAnyIn (Wd r.rd) 0 P .any ops.toArray Q fuel listed a w:=by
 intro fuel
 have hready:∀ {listed:Array Bool} {x:Nat},x ∈ Region.ready .any ops.toArray listed→x ∈ Di ops.length listed:=fun h=>((Fb rfl).1 h).1
 induction fuel with
 | zero=>
  intro listed s B S θ M w a hs hsz hcl hf hE hQ
  have hnil:Di ops.length listed=[]:=List.length_eq_zero_iff.1 (by omega)
  refine ⟨List.eq_nil_iff_forall_not_mem.2 fun x hx=>?_,?_⟩
  ·have:=hready hx
   rw [hnil] at this; cases this
  ·rw [hnil] at hE
   exact hQ s a w hE ⟨Ln.refl hs,rfl⟩
 | succ fuel ih=>
  intro listed s B S θ M w a hs hsz hcl hf hE hQ
  refine ⟨fun hr=>?_,fun i hi=>?_⟩
  ·
   have hnil:Di ops.length listed=[]:=by
    cases hrem:Di ops.length listed with
    | nil=>rfl
    | cons x l=>
     exfalso
     have hx:x ∈ Di ops.length listed:=by rw [hrem]; simp
     have hsort:(Di ops.length listed).Pairwise (· < ·):=(List.pairwise_lt_range).filter _
     rw [hrem,List.pairwise_cons] at hsort
     obtain ⟨hxn,hxl⟩:=Fp.1 hx
     have:x ∈ Region.ready .any ops.toArray listed:=(Fb rfl).2 ⟨hx,ops[x],by simp [hxn],fun e he hbe=>by
      have hlt:=hb.lt x ops[x] (by simp [hxn]) e he hbe
      cases hl:listed.getD e.on false with
      | true=>rfl
      | false=>
       exfalso
       have hen:e.on < ops.length:=Nat.lt_trans hlt hxn
       have:e.on ∈ Di ops.length listed:=Fp.2 ⟨hen,by
        rw [Array.getD_eq_getD_getElem?] at hl ⊢
        have hsz':e.on < listed.size:=by omega
        simp only [Array.getElem?_eq_getElem hsz',Option.getD_some] at hl ⊢
        exact hl⟩
       rw [hrem] at this
       rcases List.mem_cons.1 this with h | h
       ·omega
       ·have:=hsort.1 _ h; omega⟩
     rw [hr] at this; cases this
   rw [hnil] at hE
   exact hQ s a w hE ⟨Ln.refl hs,rfl⟩
  ·obtain ⟨hrem,o,ho,hafter⟩:=(Fb rfl).1 hi
   obtain ⟨pre,post,he,hpre,hset⟩:=N8 hsz hrem
   have hpl:∀ j ∈ pre,listed.getD j true=false:=fun j hj=>(Fp.1 (show j ∈ Di ops.length listed by rw [he]; simp [hj])).2
   rw [he,List.filterMap_append,List.filterMap_cons] at hE
   simp only [ho] at hE
   have hE':=Ah6 hs.cl (fun oj hoj=>by
    obtain ⟨j,hj,hoj⟩:=List.mem_filterMap.1 hoj
    refine hsw i j o oj (hpre j hj) ho hoj ?_
    cases ht:(b i).testBit j with
    | false=>rfl
    | true=>
     have:=Lu hb hcl i o ho hafter (hpre j hj) ht
     rw [Xy (hpl j hj)] at this; cases this) hE
   refine wpOpIn_mono ?_ (Ad3 ho hs hE')
   rintro a' w' ⟨s1,hE1,hF⟩
   obtain ⟨θ',M',hs',hcomp⟩:=hF.comp
   refine ih _ s1 B S θ' M' w' a' hs' (by simpa using hsz) ?_ ?_ ?_ (fun s' a'' w'' hK hF'=>hQ s' a'' w'' hK (hcomp _ _ _ hF'))
   ·intro k ok hk hl e hek hbe
    have hmono:∀ m,listed.getD m false=true→(listed.setIfInBounds i true).getD m false=true:=fun m hm=>by
     rw [Array.getD_eq_getD_getElem?] at hm ⊢
     rw [Array.getElem?_setIfInBounds]
     split
     ·split <;> simp_all
     ·exact hm
    by_cases hki:k=i
    ·subst hki
     rw [ho] at hk; cases hk
     exact hmono _ (hafter e hek hbe)
    ·have:listed.getD k false=true:=by
      rw [Array.getD_eq_getD_getElem?] at hl ⊢
      rw [Array.getElem?_setIfInBounds,if_neg (Ne.symm hki)] at hl
      exact hl
     exact hmono _ (hcl k ok hk this e hek hbe)
   ·rw [hset]
    rw [he] at hf
    simp only [List.length_append,List.length_cons] at hf ⊢
    omega
   ·rw [hset,List.filterMap_append]
    exact hE1
theorem Pu (n:Nat):Di n (Array.replicate n false)=List.range n:=by
 unfold Di
 rw [List.filter_eq_self]
 intro i hi
 have:i < n:=by simpa using hi
 simp [Array.getD_eq_getD_getElem?,this]
theorem Fq:∀ (l:List Oper),(List.range l.length).filterMap (l[·]?)=l
 | []=>rfl
 | x :: r=>by
  rw [List.length_cons,List.range_succ_eq_map,List.filterMap_cons]
  simp only [List.getElem?_cons_zero]
  rw [List.filterMap_map]
  have:((fun i=>(x :: r)[i]?) ∘ Nat.succ)=fun i=>r[i]?:=by funext i; simp
  rw [this,Fq r]
def Aj2 (n:Nat) (k:Nat→Bool):Bool:=match n with
 | 0=>k 0
 | m+1=>k (m+1)
theorem Aff (n:Nat) (k:Nat→Bool):Aj2 n k=k n:=by cases n <;> rfl
def Lm:List Oper→List Nat→(List Nat→Bool)→Bool
 | [],acc,k=>k acc
 | o :: r,acc,k=>Aj2 (o.after.toList.foldl (fun m e=>if Region.binds .any e then m ||| 2 ^ e.on ||| acc.getD e.on 0 else m) 0) fun m=>Lm r (acc++[m]) k
theorem Ki:∀ {l:List Oper} {acc:List Nat} {k:List Nat→Bool},Lm l acc k=true→∃ b,k b=true
 | [],acc,k,h=>⟨acc,h⟩
 | o :: r,acc,k,h=>by
  simp only [Lm,Aff] at h
  exact Ki h
def Ru (ops:List Oper) (b:Nat→Nat):Bool:=ops.zipIdx.all fun p=>(p.1.after.toList.all fun e=>!Region.binds .any e||decide (e.on < p.2)) &&
 (List.range p.2).all fun j=>!(b p.2).testBit j||p.1.after.toList.any fun e=>Region.binds .any e&&(e.on == j||((b e.on).testBit j&&decide (j < e.on)))
theorem Jr {b:Nat→Nat} (h:Ru ops b=true):Wp ops b:=by
 unfold Ru at h
 rw [List.all_eq_true] at h
 have key:∀ (i:Nat) (o:Oper),ops[i]?=some o→_:=fun i o ho=>h (o,i) (List.mem_zipIdx_iff_getElem?.2 ho)
 refine ⟨fun i o ho e he hb=>?_,fun i j o ho hj ht=>?_⟩
 ·have:=key i o ho
  simp only [Bool.and_eq_true,List.all_eq_true] at this
  have:=this.1 e he
  simpa [hb] using this
 ·have:=key i o ho
  simp only [Bool.and_eq_true,List.all_eq_true] at this
  have:=this.2 j (by simpa using hj)
  simp only [ht,Bool.not_true,Bool.false_or,List.any_eq_true,Bool.and_eq_true,Bool.or_eq_true,beq_iff_eq,decide_eq_true_eq] at this
  obtain ⟨e,he,hb,h⟩:=this
  exact ⟨e,he,hb,h⟩
theorem Av.drawn {B:Nat} {S:Nat→Prop} {θ:Nat→Loc} {M:Nat→Prop} {w:World} {a:Act} {st:St} (h:Av N B S θ M w st a) (k:Nat):Av N B S θ M { w with drawn:=k } st a:=
 ⟨h.size,fun i=>Ar.mono (M':=M) (w:=w) (w':={ w with drawn:=k }) (fun _ _ _=>rfl) (fun _ _ h=>h) (h.tm i),
  fun n o hn=>Pv.mono (M:=M) (w:=w) (w':={ w with drawn:=k }) (M':=M) (θ':=θ) (fun _=>rfl) (h.ob n o hn) (fun _ _ hr _=>Ar.mono (M':=M) (w:=w) (w':={ w with drawn:=k }) (fun _ _ _=>rfl) (fun _ _ h=>h) hr) (fun _ _ hp=>Cp.mono (M:=M) (M':=M) (w:=w) (w':={ w with drawn:=k }) (fun _ _ _=>rfl) (fun _ _ h=>h) hp),
  h.lv,h.inj,h.base,h.mlt,h.cl⟩
end
def Hj:Op→Bool
 | .call ⟨.builtin .append,_,_⟩=>true
 | _=>false
def Mz:Op→Bool
 | .store ..=>true
 | _=>false
def sil:Op→Bool
 | .move _ | .assign _ | .binOp .. | .unOp .. | .convert ..=>true
 | _=>false
section
variable {P:Program} {r:RB} {N:Nat} {all:List Oper} {d:Nat} {op:Op} {ρ ρ':Operand→AV} {os os':Nat→Option AO} {s:St}
theorem Um (h:sil op=true):qop op=true∧Ct op=false∧Ds op=false∧isM op=false:=by
 cases op <;> first | (simp [sil] at h; done) | exact ⟨rfl,rfl,rfl,rfl⟩
theorem Xs {d':Nat} (h:sil op=true):eff P d op ρ os=eff P d' op ρ os':=by
 cases op <;> first | (simp [sil] at h; done) | rfl
theorem Xg {op:BinOp} {t:TypeId} {a b:Option (List Int)} {e:Eff} (h:Gd P op t a b=some e):∃ v,e=.pure (.p v):=by
 unfold Gd at h
 split at h
 ·split at h
  ·split at h
   ·cases h; exact ⟨_,rfl⟩
   ·cases h; exact ⟨_,rfl⟩
   ·cases h
  ·cases h
 ·cases h
theorem U6 (h:sil op=true) {e:Eff} (he:eff P d op ρ os=some e):∃ y,e=.pure y:=by
 cases op <;> simp only [sil,Bool.false_eq_true] at h
 ·cases he; exact ⟨_,rfl⟩
 ·cases he; exact ⟨_,rfl⟩
 ·simp only [eff] at he
  split at he
  ·split at he
   ·obtain ⟨v,_,rfl⟩:=Option.map_eq_some_iff.1 he; exact ⟨_,rfl⟩
   ·cases he
  ·obtain ⟨v,_,rfl⟩:=Option.map_eq_some_iff.1 he; exact ⟨_,rfl⟩
  ·obtain ⟨v,rfl⟩:=Xg he; exact ⟨_,rfl⟩
  ·cases he
 ·simp only [eff] at he
  split at he <;> first | (cases he; done) | (cases he; exact ⟨_,rfl⟩)
 ·simp only [eff] at he
  split at he
  ·split at he
   ·cases he; exact ⟨_,rfl⟩
   ·cases he
  ·cases he
theorem Co (n:Nat) (x:AV):x.purge n=x∨x.purge n=.undef:=by
 unfold AV.purge; split
 ·exact .inl rfl
 ·exact .inr rfl
theorem Aaw (h:sil op=true) {n:Nat} (hρ:∀ x ∈ op.operands.toList,ρ' x=(ρ x).purge n) {y:AV} (he:eff P d op ρ' os=some (.pure y)):∃ y',eff P d op ρ os=some (.pure y')∧y=y'.purge n:=by
 cases op <;> simp only [sil,Bool.false_eq_true] at h
 ·rename_i x
  have he:some (Eff.pure (ρ' x))=some (.pure y):=he
  cases he
  exact ⟨ρ x,rfl,hρ x (by simp [Op.operands])⟩
 ·rename_i x
  have he:some (Eff.pure (ρ' x))=some (.pure y):=he
  cases he
  exact ⟨ρ x,rfl,hρ x (by simp [Op.operands])⟩
 ·rename_i b t x z u
  have e1:=hρ x (by simp [Op.operands])
  have e2:=hρ z (by simp [Op.operands])
  have key:∀ {y},eff P d (.binOp b t x z u) ρ os=some (.pure y)→y.purge n=y:=fun {y} he=>by
   simp only [eff] at he
   split at he
   ·split at he
    ·obtain ⟨v,_,hv⟩:=Option.map_eq_some_iff.1 he; cases hv; rfl
    ·cases he
   ·obtain ⟨v,_,hv⟩:=Option.map_eq_some_iff.1 he; cases hv; rfl
   ·obtain ⟨v,hv⟩:=Xg he; cases hv; rfl
   ·cases he
  rcases Co n (ρ x) with h1 | h1
  ·rcases Co n (ρ z) with h2 | h2
   ·have:eff P d (.binOp b t x z u) ρ os=some (.pure y):=by
     rw [h1] at e1; rw [h2] at e2
     simp only [eff,e1,e2] at he ⊢
     exact he
    exact ⟨y,this,(key this).symm⟩
   ·rw [h2] at e2
    simp only [eff,e2] at he
    split at he <;> simp_all
  ·rw [h1] at e1
   simp only [eff,e1] at he
   cases he
 ·rename_i b t x
  have e1:=hρ x (by simp [Op.operands])
  have key:∀ {y},eff P d (.unOp b t x) ρ os=some (.pure y)→y.purge n=y:=fun {y} he=>by
   simp only [eff] at he
   split at he <;> first | (cases he; done) | (cases he; rfl)
  rcases Co n (ρ x) with h1 | h1
  ·have:eff P d (.unOp b t x) ρ os=some (.pure y):=by
    rw [h1] at e1
    simp only [eff,e1] at he ⊢
    exact he
   exact ⟨y,this,(key this).symm⟩
  ·rw [h1] at e1
   simp only [eff,e1] at he
   first
    | (cases he; done)
    | (split at he <;> simp_all)
 ·rename_i u t x
  have e1:=hρ x (by simp [Op.operands])
  have key:∀ {y},eff P d (.convert u t x) ρ os=some (.pure y)→y.purge n=y:=fun {y} he=>by
   simp only [eff] at he
   split at he
   ·split at he
    ·cases he; rfl
    ·cases he
   ·cases he
  rcases Co n (ρ x) with h1 | h1
  ·have:eff P d (.convert u t x) ρ os=some (.pure y):=by
    rw [h1] at e1
    simp only [eff,e1] at he ⊢
    exact he
   exact ⟨y,this,(key this).symm⟩
  ·rw [h1] at e1
   simp only [eff,e1] at he
   first
    | (cases he; done)
    | (split at he <;> simp_all)
theorem G7 (h:Hj op=true) {e:Eff} (he:eff P d op ρ os=some e):(∃ k es len,e=.new (.arr k es) (.own d len))∨∃ n k es len,e=.app n (.arr k es) (.own d len):=by
 unfold Hj at h
 split at h
 ·rename_i as ts
  simp only [eff] at he
  split at he
  ·split at he
   ·split at he
    ·split at he
     ·split at he
      ·split at he
       ·cases he; exact .inl ⟨_,_,_,rfl⟩
       ·cases he
      ·split at he
       ·split at he
        ·cases he; exact .inr ⟨_,_,_,_,rfl⟩
        ·cases he
       ·cases he
      ·cases he
     ·cases he
    ·cases he
   ·cases he
  ·cases he
 ·cases h
theorem Fy (h:Hj op=true) (hρ:∀ x ∈ op.operands.toList,ρ' x=ρ x):eff P d op ρ' os=eff P d op ρ os:=by
 unfold Hj at h
 split at h
 ·rename_i as ts
  have hm:∀ x ∈ as.toList,ρ' x=ρ x:=fun x hx=>hρ x (by simp [Op.operands,Call.operands]; simpa using hx)
  simp only [eff]
  cases hts:ts.toList with
  | nil=>rfl
  | cons t r=>cases r with
   | nil=>rfl
   | cons t' r=>cases r with
    | cons _ _=>rfl
    | nil=>cases hargs:as.toList with
     | nil=>rfl
     | cons x l=>cases l with
      | nil=>rfl
      | cons y l=>cases l with
       | cons _ _=>rfl
       | nil=>
        rw [hargs] at hm
        simp only [hm x (by simp),hm y (by simp)]
 ·cases h
theorem Ns (h:Mz op=true) (hρ:∀ x ∈ op.operands.toList,ρ' x=ρ x):eff P d op ρ' os=eff P d op ρ os:=by
 cases op <;> simp only [Mz,Bool.false_eq_true] at h
 rename_i t x v
 simp only [eff,hρ x (by simp [Op.operands]),hρ v (by simp [Op.operands])]
theorem Nb {os:Nat→Option AO}:∀ {vs cs:List AV} {off:Nat},(∀ (i:Nat) (y:AV),cs[i]?=some y→y.lives os)→(∀ (i:Nat) (y:AV),vs[i]?=some y→y.lives os)→∀ (i:Nat) (y:AV),(Bd cs off vs)[i]?=some y→y.lives os
 | [],cs,off,h1,_=>h1
 | v :: vs,cs,off,h1,h2=>by
  simp only [Bd]
  refine Nb (fun i y hi=>?_) (fun i y hi=>h2 (i+1) y (by simpa using hi))
  rw [List.getElem?_set] at hi
  split at hi
  ·split at hi
   ·cases hi; exact h2 0 v rfl
   ·cases hi
  ·exact h1 i y hi
theorem G2 (h:Mz op=true) (hc:s.closed) {e:Eff} (he:eff P d op (ev s.t) s.o=some e):∃ n o,e=.upd n o∧o.lives s.o∧(s.o n).isSome=true:=by
 cases op <;> simp only [Mz,Bool.false_eq_true] at h
 rename_i t x v
 simp only [eff] at he
 split at he
 ·rename_i vs g hvs hg
  split at he
  ·split at he
   ·rename_i n off hx
    split at he
    ·rename_i cs hn
     split at he
     ·cases he
      exact ⟨_,_,rfl,AO.lives_cells.2 (Nb (AO.lives_cells.1 (hc.2 n _ hn)) (Nd (Ld hc v) hvs)),by rw [hn]; rfl⟩
     ·cases he
    ·cases he
   ·rename_i n k i off hx
    split at he
    ·rename_i k' es ps hn hps
     split at he
     ·cases he
      exact ⟨_,_,rfl,AO.lives_arr _ _ _,by rw [hn]; rfl⟩
     ·cases he
    ·cases he
   ·cases he
  ·cases he
 ·cases he
theorem Fc (hc:s.closed) (n:Nat):(s.purge n).closed:=by
 have hkeep:∀ m,m≠n→(s.o m).isSome=true→((s.purge n).o m).isSome=true:=fun m hm hs=>by
  rw [St.purge_o_other s hm,Option.isSome_map]; exact hs
 refine ⟨fun i=>AV.lives_purge hkeep (hc.1 i),fun m o hm=>?_⟩
 by_cases e:m=n
 ·subst e; rw [St.purge_o_same] at hm; cases hm
 ·rw [St.purge_o_other s e,Option.map_eq_some_iff] at hm
  obtain ⟨o',h1,rfl⟩:=hm
  exact AO.lives_purge hkeep (hc.2 m o' h1)
theorem G8 (hc:s.closed) {n:Nat} {o:AO} (ho:o.lives s.o):(s.setO n o).closed:=by
 have hm:∀ m,(s.o m).isSome=true→((s.setO n o).o m).isSome=true:=fun m hm=>by
  show (upd s.o n (some o) m).isSome=true
  unfold upd; split
  ·rfl
  ·exact hm
 refine ⟨fun i=>AV.lives_mono hm (hc.1 i),fun m o' ho'=>?_⟩
 have ho':upd s.o n (some o) m=some o':=ho'
 unfold upd at ho'
 split at ho'
 ·cases ho'; exact AO.lives_mono hm ho
 ·exact AO.lives_mono hm (hc.2 m o' ho')
theorem Bi {o:Oper} {rest:List Oper} {K:St→Prop} (hg:o.guard=none) (hc:Ct o.op=false) (hd:Ds o.op=false) (hM:isM o.op=false) :
  EL P r N all (o :: rest) s K↔Cm N o.dst=true∧∃ e s',eff P (r.b+o.dst.getD 0) o.op (ev s.t) s.o=some e∧e.apply r.b o.dst s=some s'∧EL P r N all rest s' K:=by
 simp only [EL,hg,EO,hM,Rh hc,hc,hd,Bool.false_eq_true,if_false,true_and]
 unfold EA
 constructor
 ·rintro ⟨h1,h2⟩
  refine ⟨h1,?_⟩
  split at h2
  ·rename_i e he
   split at h2
   ·rename_i s' hs'
    exact ⟨e,s',he,hs',h2⟩
   ·exact h2.elim
  ·exact h2.elim
 ·rintro ⟨h1,e,s',he,hs',h2⟩
  refine ⟨h1,?_⟩
  simp only [he,hs']
  exact h2
theorem Gh (h:Hj op=true):Ct op=false∧Ds op=false∧isM op=false:=by
 unfold Hj at h
 split at h
 ·exact ⟨rfl,rfl,rfl⟩
 ·cases h
theorem Hw (h:Mz op=true):Ct op=false∧Ds op=false∧isM op=false:=by
 cases op <;> first | (simp [Mz] at h; done) | exact ⟨rfl,rfl,rfl⟩
theorem Dh {nb:Nat} {dst:Option Nat} {a:AO} {x:AV} {s':St} (h:(Eff.new a x).apply nb dst s=some s'):∃ d,dst=some d∧s.o (nb+d)=none∧s'=(s.setO (nb+d) a).put (some d) x:=by
 cases dst with
 | none=>simp [Eff.apply] at h
 | some d=>
  simp only [Eff.apply] at h
  split at h
  ·rename_i hb
   cases h
   simp only [Option.isNone_iff_eq_none] at hb
   exact ⟨d,rfl,hb,rfl⟩
  ·cases h
theorem Ey {nb:Nat} {dst:Option Nat} {n:Nat} {a:AO} {x:AV} {s':St} (h:(Eff.app n a x).apply nb dst s=some s'):∃ d,dst=some d∧(s.purge n).o (nb+d)=none∧s'=((s.purge n).setO (nb+d) a).put (some d) x:=by
 cases dst with
 | none=>simp [Eff.apply] at h
 | some d=>
  simp only [Eff.apply] at h
  split at h
  ·rename_i hb
   cases h
   simp only [Option.isNone_iff_eq_none] at hb
   exact ⟨d,rfl,hb,rfl⟩
  ·cases h
theorem Agu {o:Oper} (h:Hj o.op=true) (hg:o.guard=none):Jn P r N all o:=by
 intro l l' s K hc hl hE
 obtain ⟨f1,f2,f3⟩:=Gh h
 rw [Bi hg f1 f2 f3] at hE ⊢
 obtain ⟨h1,e,s',he,hs',h2⟩:=hE
 refine ⟨h1,e,s',he,hs',hl s' ?_ h2⟩
 rcases G7 h he with ⟨k,es,len,rfl⟩ | ⟨n,k,es,len,rfl⟩
 ·obtain ⟨d,hd,_,rfl⟩:=Dh hs'
  exact Dt hc (AO.lives_arr _ _ _) (fun m hm=>by rw [hd] at hm; exact Em m hm)
 ·obtain ⟨d,hd,_,rfl⟩:=Ey hs'
  exact Dt (Fc hc n) (AO.lives_arr _ _ _) (fun m hm=>by rw [hd] at hm; exact Em m hm)
theorem Afr {o:Oper} (h:Mz o.op=true) (hg:o.guard=none):Jn P r N all o:=by
 intro l l' s K hc hl hE
 obtain ⟨f1,f2,f3⟩:=Hw h
 rw [Bi hg f1 f2 f3] at hE ⊢
 obtain ⟨h1,e,s',he,hs',h2⟩:=hE
 refine ⟨h1,e,s',he,hs',hl s' ?_ h2⟩
 obtain ⟨n,ob,rfl,h3,_⟩:=G2 h hc he
 cases hs'
 exact C6 (G8 hc h3) (AV.lives_undef _)
theorem Ts {t:Nat→AV} {n:Nat} (x:Operand):ev (fun i=>(t i).purge n) x=(ev t x).purge n:=by
 have key:(∀ i,x≠.tmp i)→(ev t x).purge n=ev t x:=fun h=>by
  unfold AV.purge
  split
  ·rfl
  ·rename_i hc
   obtain ⟨i,hi⟩:=Zh (t:=t) (by simpa using hc)
   exact absurd hi (h i)
 cases x with
 | tmp i=>rfl
 | const v=>exact (key (fun i h=>by cases h)).symm
 | global v=>exact (key (fun i h=>by cases h)).symm
 | func v=>exact (key (fun i h=>by cases h)).symm
theorem Cx {o:Oper} {x:Operand} (hx:x ∈ o.op.operands.toList) {i:Nat} (hi:x=.tmp i):i ∈ o.looksAt all.toArray:=by
 subst hi
 exact List.mem_append_left _ (List.mem_filterMap.2 ⟨.tmp i,hx,rfl⟩)
theorem L1 {t:Nat→AV} {d:Nat} {y:AV} {x:Operand} (h:x≠.tmp d):ev (upd t d y) x=ev t x:=by
 cases x with
 | tmp i=>exact Ao (fun e=>h (by rw [e]))
 | _=>rfl
theorem Jm {s:St} {dst:Option Nat} {y:AV} {x:Operand} (h:∀ d,dst=some d→x≠.tmp d):ev (s.put dst y).t x=ev s.t x:=by
 cases dst with
 | none=>rfl
 | some d=>exact L1 (h d rfl)
theorem Cq {α:Type} {f:Nat→α} {a b:Nat} {x y:α} (h:a≠b):upd (upd f a x) b y=upd (upd f b y) a x:=by
 funext i
 unfold upd
 by_cases h1:i=a
 ·subst h1; simp [h]
 ·simp [h1]
theorem Vq {j i:Oper} (hj:Hj j.op=true) (hjg:j.guard=none) (hi:sil i.op=true) (hig:i.guard=none) (hap:j.apart all.toArray i=true):G5 P r N all j i:=by
 intro l s K hc hE
 obtain ⟨f1,f2,f3⟩:=Gh hj
 obtain ⟨q1,q2,q3,q4⟩:=Um hi
 obtain ⟨a1,a2,a3⟩:=Oper.apart_spec hap
 rw [Bi hjg f1 f2 f3] at hE
 obtain ⟨h1,e,s1,he,hs1,h2⟩:=hE
 rw [Bi hig q2 q3 q4] at h2
 obtain ⟨h3,e2,s2,he2,hs2,h4⟩:=h2
 obtain ⟨y,rfl⟩:=U6 hi he2
 have hs2:s2=s1.put i.dst y:=by cases hs2; rfl
 have hlook:∀ x ∈ i.op.operands.toList,∀ d,j.dst=some d→x≠.tmp d:=fun x hx d hd hxd=>a1 d hd (Cx hx hxd)
 have hlook2:∀ x ∈ j.op.operands.toList,∀ d,i.dst=some d→x≠.tmp d:=fun x hx d hd hxd=>a3 d hd (Cx hx hxd)
 have main:∃ y',eff P (r.b+i.dst.getD 0) i.op (ev s.t) s.o=some (.pure y')∧e.apply r.b j.dst (s.put i.dst y')=some s2:=by
  rcases G7 hj he with ⟨k,es,len,rfl⟩ | ⟨n,k,es,len,rfl⟩
  ·obtain ⟨d,hd,hn,rfl⟩:=Dh hs1
   refine ⟨y,?_,?_⟩
   ·rw [Xs (os':=((s.setO (r.b+d) (.arr k es)).put (some d) (.own (r.b+j.dst.getD 0) len)).o) (d':=r.b+i.dst.getD 0) hi]
    rw [← he2]
    refine (Ky q1 q2 ⟨fun x hx=>?_,fun x hx n hn=>rfl⟩).symm
    exact L1 (hlook x hx d hd)
   ·rw [hs2,hd]
    have:((s.put i.dst y).o (r.b+d)).isNone=true:=by
     have:(s.put i.dst y).o (r.b+d)=none:=by cases i.dst <;> exact hn
     rw [this]; simp
    simp only [Eff.apply,this,if_true,Option.some.injEq]
    cases hid:i.dst with
    | none=>rfl
    | some d2=>
     have hne:d2≠d:=fun e=>a2 d hd (by rw [hid,e])
     simp only [St.put,St.setO,Cq hne]
  ·obtain ⟨d,hd,hn,rfl⟩:=Ey hs1
   have hρ:∀ x ∈ i.op.operands.toList,ev (((s.purge n).setO (r.b+d) (.arr k es)).put (some d) (.own (r.b+j.dst.getD 0) len)).t x=(ev s.t x).purge n:=fun x hx=>by
    rw [show ev (((s.purge n).setO (r.b+d) (.arr k es)).put (some d) (.own (r.b+j.dst.getD 0) len)).t x=ev (s.purge n).t x from L1 (hlook x hx d hd)]
    exact Ts x
   obtain ⟨y',h5,h6⟩:=Aaw hi hρ he2
   refine ⟨y',by rw [Xs hi]; exact h5,?_⟩
   rw [hs2,hd]
   have hp:((s.put i.dst y').purge n).o=(s.purge n).o:=by cases i.dst <;> rfl
   have:(((s.put i.dst y').purge n).o (r.b+d)).isNone=true:=by
    rw [hp,hn]; simp
   simp only [Eff.apply,this,if_true,Option.some.injEq]
   cases hid:i.dst with
   | none=>rfl
   | some d2=>
    have hne:d2≠d:=fun e=>a2 d hd (by rw [hid,e])
    simp only [St.put,St.setO]
    congr 1
    show upd (fun i=>(upd s.t d2 y' i).purge n) d _=upd (upd (fun i=>(s.t i).purge n) d _) d2 y
    rw [Cq (Ne.symm hne)]
    congr 1
    funext q
    unfold upd
    by_cases hq:q=d2
    ·subst hq; simp [h6]
    ·simp [hq]
 obtain ⟨y',h5,h6⟩:=main
 rw [Bi hig q2 q3 q4]
 refine ⟨h3,.pure y',s.put i.dst y',h5,rfl,?_⟩
 rw [Bi hjg f1 f2 f3]
 refine ⟨h1,e,s2,?_,h6,h4⟩
 rw [show (s.put i.dst y').o=s.o by cases i.dst <;> rfl,← he]
 exact Fy hj fun x hx=>Jm (hlook2 x hx)
theorem Vy {j i:Oper} (hj:sil j.op=true) (hjg:j.guard=none) (hi:Mz i.op=true) (hig:i.guard=none) (hid:i.dst=none) (hap:j.apart all.toArray i=true):G5 P r N all j i:=by
 intro l s K hc hE
 obtain ⟨f1,f2,f3⟩:=Hw hi
 obtain ⟨q1,q2,q3,q4⟩:=Um hj
 obtain ⟨a1,a2,a3⟩:=Oper.apart_spec hap
 rw [Bi hjg q2 q3 q4] at hE
 obtain ⟨h1,e,s1,he,hs1,h2⟩:=hE
 obtain ⟨y,rfl⟩:=U6 hj he
 cases hs1
 rw [Bi hig f1 f2 f3] at h2
 obtain ⟨h3,e2,s2,he2,hs2,h4⟩:=h2
 have ho:(s.put j.dst y).o=s.o:=by cases j.dst <;> rfl
 have he2':eff P (r.b+i.dst.getD 0) i.op (ev s.t) s.o=some e2:=by
  rw [← he2,ho]
  exact (Ns hi fun x hx=>Jm (fun d hd hxd=>a1 d hd (Cx hx hxd))).symm
 obtain ⟨n,ob,rfl,h5,_⟩:=G2 hi hc he2'
 rw [Bi hig f1 f2 f3]
 refine ⟨h3,.upd n ob,s.setO n ob,he2',by rw [hid]; rfl,?_⟩
 rw [Bi hjg q2 q3 q4]
 refine ⟨h1,.pure y,(s.setO n ob).put j.dst y,?_,rfl,?_⟩
 ·rw [← he]; exact Xs hj
 ·rw [hid] at hs2
  have:s2=(s.setO n ob).put j.dst y:=by cases hs2; cases j.dst <;> rfl
  rw [← this]; exact h4
def Tw (v:List Nat) (ops:List Oper) (oj oi:Oper):Bool:=
 (qop oj.op&&qop oi.op&&!isV v oj.op&&!isV v oi.op||Hj oj.op&&oj.guard.isNone&&sil oi.op&&oi.guard.isNone||sil oj.op&&oj.guard.isNone&&Mz oi.op&&oi.guard.isNone&&oi.dst.isNone)&&oj.apart ops.toArray oi
def T5 (v:List Nat) (ops:List Oper) (b:Nat→Nat):Bool:=ops.zipIdx.all fun p=>(ops.take p.2).zipIdx.all fun q=>(b p.2).testBit q.2||Tw v ops q.1 p.1
def An4 (v:List Nat) (ops:List Oper):Bool:=Lm ops [] fun l=>Ru ops (fun i=>l.getD i 0)&&T5 v ops (fun i=>l.getD i 0)
theorem Ph {ops:List Oper} {oj oi:Oper} (h:Tw r.v ops oj oi=true):Jn P r N ops oj∧G5 P r N ops oj oi:=by
 simp only [Tw,Bool.and_eq_true,Bool.or_eq_true,Option.isNone_iff_eq_none] at h
 obtain ⟨(h | h) | h,hap⟩:=h
 ·exact ⟨D2 h.1.1.1 (by simpa using h.1.2),Zj h.1.1.1 h.1.1.2 (by simpa using h.1.2) (by simpa using h.2) hap⟩
 ·exact ⟨Agu h.1.1.1 h.1.1.2,Vq h.1.1.1 h.1.1.2 h.1.2 h.2 hap⟩
 ·exact ⟨D2 (Um h.1.1.1.1).1 (Rh (Um h.1.1.1.1).2.1),Vy h.1.1.1.1 h.1.1.1.2 h.1.1.2 h.1.2 h.2 hap⟩
theorem V8 {ops:List Oper} {b:Nat→Nat} (h:T5 r.v ops b=true):∀ (i j:Nat) (oi oj:Oper),j < i→ops[i]?=some oi→ops[j]?=some oj→(b i).testBit j=false→Jn P r N ops oj∧G5 P r N ops oj oi:=by
 intro i j oi oj hj hi hoj ht
 unfold T5 at h
 rw [List.all_eq_true] at h
 have h1:=h (oi,i) (List.mem_zipIdx_iff_getElem?.2 hi)
 rw [List.all_eq_true] at h1
 have h2:=h1 (oj,j) (List.mem_zipIdx_iff_getElem?.2 (by rw [List.getElem?_take,if_pos hj]; exact hoj))
 simp only [ht,Bool.false_or] at h2
 exact Ph h2
theorem U2 {ops:List Oper} {id:Nat} {st:St} {Q:AEx→St→Prop} (hm:P.follows .mixedOrders=true) {b:Nat→Nat} (hb:Wp ops b)
  (hsw:∀ (i j:Nat) (oi oj:Oper),j < i→ops[i]?=some oi→ops[j]?=some oj→(b i).testBit j=false→Jn P r N ops oj∧G5 P r N ops oj oi) (h:EL P r N ops ops st (Q .normal)):AWP P r N (.region id ops.toArray true) st Q:=by
 intro B S θ M w a hs
 refine wpIn_region_any hm ?_
 have hrem:Di ops.length (Array.replicate ops.length false)=List.range ops.length:=Pu _
 refine Aie hb hsw ops.toArray.size (Array.replicate ops.toArray.size false) st B S θ M _ a (hs.drawn _) (by simp) (fun k o hk hL=>?_) ?_ ?_ (fun s' a' w' hk hF=>⟨.normal,s',rfl,hk,?_⟩)
 ·simp only [Array.getD_eq_getD_getElem?,Array.getElem?_replicate] at hL
  split at hL <;> simp at hL
 ·simp only [List.size_toArray]; rw [hrem]; simp
 ·simp only [List.size_toArray]; rw [hrem,Fq]; exact h
 ·obtain ⟨⟨θ',M',h1,h2,h3,h4⟩,h5⟩:=hF
  exact ⟨⟨θ',M',h1,⟨h2.size,h2.same,h2.os,h2.tape,h2.output⟩,h3,h4⟩,h5⟩
theorem Bk {ops:List Oper} {id:Nat} {st:St} {Q:AEx→St→Prop} (hm:P.follows .mixedOrders=true) (hchk:An4 r.v ops=true) (h:EL P r N ops ops st (Q .normal)):AWP P r N (.region id ops.toArray true) st Q:=by
 obtain ⟨l,hl⟩:=Ki hchk
 rw [Bool.and_eq_true] at hl
 exact U2 hm (Jr hl.1) (V8 hl.2) h
end
def leT (t:Nat→AV):List (Nat × AV)→Prop
 | []=>True
 | (j,x) :: r=>t j=x∧leT t r
def leO (o:Nat→Option AO):List (Nat × AO)→Prop
 | []=>True
 | (j,x) :: r=>o j=some x∧leO o r
theorem Am7 (t:Nat→AV):leT t []=True:=rfl
theorem Qd (t:Nat→AV) (j:Nat) (x:AV) (r:List (Nat × AV)):leT t ((j,x) :: r)=(t j=x∧leT t r):=rfl
theorem Amq (t:Nat→Option AO):leO t []=True:=rfl
theorem Aik (t:Nat→Option AO) (j:Nat) (x:AO) (r:List (Nat × AO)):leO t ((j,x) :: r)=(t j=some x∧leO t r):=rfl
mutual
def nm (ks:List Nat):AV→Bool
 | .p _=>true
 | .ptr m _=>ks.contains m
 | .eptr m _ _ _=>ks.contains m
 | .own m _=>ks.contains m
 | .csl m _ _ _=>ks.contains m
 | .fn _ fs cs=>nmL ks fs&&nmL ks cs
 | .yld m=>ks.contains m
 | .mp m=>ks.contains m
 | .agg cs=>nmL ks cs
 | .tup cs=>nmL ks cs
 | .undef=>true
def nmL (ks:List Nat):List AV→Bool
 | []=>true
 | x :: r=>nm ks x&&nmL ks r
end
def nmO (ks:List Nat):AO→Bool
 | .cells cs=>nmL ks cs
 | .arr _ _=>true
 | .obj _=>true
 | .it m _=>ks.contains m
 | .loop _ tm=>nmL ks (tm.map (·.2))
def nmT (ks:List Nat):List (Nat × AV)→Bool
 | []=>true
 | (_,x) :: r=>nm ks x&&nmT ks r
def Ac5 (ks:List Nat):List (Nat × AO)→Bool
 | []=>true
 | (_,x) :: r=>nmO ks x&&Ac5 ks r
def Qo:List (Nat × AO)→List Nat
 | []=>[]
 | (j,_) :: r=>j :: Qo r
theorem Hv {m:List (Nat × AO)} {n:Nat} (h:(Qo m).contains n=true):(O m n).isSome=true:=by
 induction m with
 | nil=>simp [Qo] at h
 | cons p r ih=>
  obtain ⟨j,x⟩:=p
  simp only [O]
  split
  ·rfl
  ·rename_i hne
   refine ih ?_
   simp only [Qo,List.contains_cons,Bool.or_eq_true,beq_iff_eq] at h
   rcases h with h | h
   ·exact absurd h hne
   ·exact h
mutual
theorem Ve {m:List (Nat × AO)}:∀ (x:AV),nm (Qo m) x=true→∀ n,x.clean n=false→(O m n).isSome=true
 | .p _,_,n,hn=>by simp [AV.clean] at hn
 | .ptr k _,h,n,hn=>by simp only [AV.clean,bne_eq_false_iff_eq] at hn; subst hn; exact Hv h
 | .eptr k _ _ _,h,n,hn=>by simp only [AV.clean,bne_eq_false_iff_eq] at hn; subst hn; exact Hv h
 | .own k _,h,n,hn=>by simp only [AV.clean,bne_eq_false_iff_eq] at hn; subst hn; exact Hv h
 | .csl k _ _ _,h,n,hn=>by simp only [AV.clean,bne_eq_false_iff_eq] at hn; subst hn; exact Hv h
 | .yld k,h,n,hn=>by simp only [AV.clean,bne_eq_false_iff_eq] at hn; subst hn; exact Hv h
 | .mp k,h,n,hn=>by simp only [AV.clean,bne_eq_false_iff_eq] at hn; subst hn; exact Hv h
 | .fn f fs cs,h,n,hn=>by
  simp only [nm,Bool.and_eq_true] at h
  simp only [AV.clean,Bool.and_eq_false_iff] at hn
  rcases hn with hn | hn
  ·exact Gm fs h.1 n hn
  ·exact Gm cs h.2 n hn
 | .agg cs,h,n,hn=>Gm cs h n (by simpa [AV.clean] using hn)
 | .tup cs,h,n,hn=>Gm cs h n (by simpa [AV.clean] using hn)
 | .undef,_,n,hn=>by simp [AV.clean] at hn
theorem Gm {m:List (Nat × AO)}:∀ (l:List AV),nmL (Qo m) l=true→∀ n,AV.clean.cleanL n l=false→(O m n).isSome=true
 | [],_,n,hn=>by simp [AV.clean.cleanL] at hn
 | x :: r,h,n,hn=>by
  simp only [nmL,Bool.and_eq_true] at h
  simp only [AV.clean.cleanL,Bool.and_eq_false_iff] at hn
  rcases hn with hn | hn
  ·exact Ve x h.1 n hn
  ·exact Gm r h.2 n hn
end
theorem Aez {l:List (Nat × AV)} {m:List (Nat × AO)} (h1:nmT (Qo m) l=true) (h2:Ac5 (Qo m) m=true):(⟨T l,O m⟩:St).closed:=by
 refine ⟨fun i=>?_,fun k o ho=>?_⟩
 ·show (T l i).lives (O m)
  induction l with
  | nil=>exact AV.lives_undef _
  | cons p r ih=>
   obtain ⟨j,x⟩:=p
   simp only [nmT,Bool.and_eq_true] at h1
   simp only [T]
   split
   ·exact fun n hn=>Ve x h1.1 n hn
   ·exact ih h1.2
 ·show o.lives (O m)
  have key:∀ m':List (Nat × AO),Ac5 (Qo m) m'=true→O m' k=some o→nmO (Qo m) o=true:=by
   intro m'
   induction m' with
   | nil=>intro _ h; cases h
   | cons p r ih=>
    obtain ⟨j,x⟩:=p
    intro h h'
    simp only [Ac5,Bool.and_eq_true] at h
    simp only [O] at h'
    split at h'
    ·cases h'; exact h.1
    ·exact ih h.2 h'
  have:=key m h2 ho
  cases o with
  | cells cs=>exact fun n hn=>Gm cs this n hn
  | arr k es=>exact AO.lives_arr _ _ _
  | obj X=>exact AO.lives_obj _ _
  | it k X=>exact fun n hn=>Ve (.ptr k 0) this n hn
  | loop k tm=>exact fun n hn=>Gm _ this n hn
theorem B7 {l1:List (Nat × AV)} {m1:List (Nat × AO)} {s:St} (h1:leT s.t l1) (h2:leO s.o m1) (h3:nmT (Qo m1) l1=true) (h4:Ac5 (Qo m1) m1=true):St.le ⟨T l1,O m1⟩ s:=by
 refine ⟨fun i=>?_,fun n=>?_,Aez h3 h4⟩
 ·show T l1 i=.undef∨T l1 i=s.t i
  clear h3
  induction l1 with
  | nil=>exact .inl rfl
  | cons p r ih=>
   obtain ⟨j,x⟩:=p
   simp only [leT] at h1
   simp only [T]
   split
   ·rename_i h; subst h; exact .inr h1.1.symm
   ·exact ih h1.2
 ·show O m1 n=none∨O m1 n=s.o n
  clear h3 h4
  induction m1 with
  | nil=>exact .inl rfl
  | cons p r ih=>
   obtain ⟨j,x⟩:=p
   simp only [leO] at h2
   simp only [O]
   split
   ·rename_i h; subst h; exact .inr h2.1.symm
   ·exact ih h2.2
abbrev iv (n:Int):PV:=.val (.int .i64 n)
abbrev isl (l:List Int):AV:=.p (.sl (l.map fun n=>[iv n]))
theorem E6 {α β:Type} (f:α→β) {l:List α} {k:Nat} (d:β) (d':α) (h:k < l.length):(l.map f).getD k d=f (l.getD k d'):=by
 simp [List.getD,h]
theorem Adf {P:Program} {s:St} {i:Nat}:Gj P s (.tmp i)=Gb s.o (s.t i):=rfl
theorem An3 {os:Nat→Option AO} {x:PV}:Gb os (.p x)=some (.p x):=rfl
theorem Ag3 {P:Program} {s:St} {x:ResultVar}:(Ea P s [x]).map Fz=(Gj P s x):=by
 simp only [Ea]
 cases Gj P s x <;> rfl
section
variable {P:Program} {r:RB} {N:Nat} {s:St} {K:St→Prop} {dst:Option Nat} {ty:TypeId} {pos:String} {after:Array Edge} {g:Option (Nat × Bool)} {all rest:List Oper} {Q:AEx→St→Prop}
def ECk (P:Program) (r:RB) (N:Nat) (f:FuncId) (vargs:Option (List AV)) (args:List AV) (dst:Option Nat) (s:St) (K:St→Prop):Prop:=
 Cm N dst=true∧((Bs P f=true∧∃ args' res,vargs=some args'∧Bf P f args' res∧(res.scal=true∨args=args'∨Aeu P f args' res)∧K (s.put dst res)) ∨
  (Bs P f=true∧∃ args' k es d,vargs=some args'∧Adg P f args' k es∧dst=some d∧s.o (r.b+d)=none∧K ((s.setO (r.b+d) (.arr k es)).put dst (.own (r.b+d) es.length))))
def EOc (P:Program) (r:RB) (N:Nat) (f:FuncId) (as:List Operand) (dst:Option Nat) (s:St) (K:St→Prop):Bool→Bool→Prop
 | false,_=>ECk P r N f (D7 s.o (as.map (ev s.t))) (as.map (ev s.t)) dst s K
 | true,false=>EVk P r N (.fn (.func f) [] []) (as.map (ev s.t)) dst s K
 | true,true=>EVq P r N (.fn (.func f) [] []) (as.map (ev s.t)) dst s K
theorem Ayi {f:FuncId} {as:List Operand} {b:Bool}:EOc P r N f as dst s K false b=ECk P r N f (D7 s.o (as.map (ev s.t))) (as.map (ev s.t)) dst s K:=rfl
theorem Aq2 {f:FuncId} {as:List Operand}:EOc P r N f as dst s K true false=EVk P r N (.fn (.func f) [] []) (as.map (ev s.t)) dst s K:=rfl
theorem As4 {f:FuncId} {as:List Operand}:EOc P r N f as dst s K true true=EVq P r N (.fn (.func f) [] []) (as.map (ev s.t)) dst s K:=rfl
theorem Ady {f:FuncId} {as:Array Operand} {ts:Array TypeId}:EO P r N ⟨dst,.call ⟨.value (.func f),as,ts⟩,ty,pos,after,g⟩ s K=EOc P r N f as.toList dst s K (r.v.contains f) (r.q.contains f):=by
 have e1:isV r.v (Op.call ⟨.value (.func f),as,ts⟩)=r.v.contains f:=rfl
 have e2:isQ r.q (.func f)=r.q.contains f:=rfl
 unfold EO
 rw [if_neg (by simp [isM])]
 simp only [e1]
 cases hv:r.v.contains f with
 | false=>rfl
 | true=>
  simp only [if_true]
  unfold EV
  simp only [e2]
  cases hq:r.q.contains f with
  | false=>rfl
  | true=>rfl
theorem Ah2 {i:Nat} {as:Array Operand} {ts:Array TypeId}:EO P r N ⟨dst,.call ⟨.value (.tmp i),as,ts⟩,ty,pos,after,g⟩ s K=EVk P r N (s.t i) (as.toList.map (ev s.t)) dst s K:=by
 unfold EO EV
 simp [isM,isV,isQ,ev]
theorem Am {f:FuncId} {args args':List AV} {res:AV} (hf:Bs P f=true) (hd:Cm N dst=true) (hc:Bf P f args' res) (hs:res.scal=true∨args=args'∨Aeu P f args' res) (h:K (s.put dst res)):ECk P r N f (some args') args dst s K:=⟨hd,.inl ⟨hf,args',res,rfl,hc,hs,h⟩⟩
theorem Abf {bd:Nat} {fv:AV} {args:List AV} {res:AV} (hd:Cm N dst=true) (hc:Bm P bd fv args s.o (fun x os'=>x=res∧os'=s.o)) (hbd:∀ n,bd≤n→s.o n=none) (hb:r.b≤bd) (hp:res.isP=true) (h:K (s.put dst res)):EVq P r N fv args dst s K:=⟨hd,bd,res,hc,hbd,hb,hp,h⟩
def Anp (ks:List Nat):List (Nat × AV)→List (Nat × AV)
 | []=>[]
 | (j,x) :: l=>(j,if nm ks x=true then x else .undef) :: Anp ks l
theorem Aht {ks:List Nat}:Anp ks []=[]:=rfl
theorem Ag2 {ks:List Nat} {j:Nat} {x:AV} {l:List (Nat × AV)}:Anp ks ((j,x) :: l)=(j,if nm ks x=true then x else .undef) :: Anp ks l:=rfl
theorem Acj {os:Nat→Option AO}:D7 os []=some []:=rfl
def oc2 (x:Option AV) (y:Option (List AV)):Option (List AV):=match x,y with | some a,some b=>some (a :: b) | _,_=>none
theorem Aaq {os:Nat→Option AO} {x:AV} {l:List AV}:D7 os (x :: l)=oc2 (Gb os x) (D7 os l):=by
 unfold oc2; rfl
theorem Agf {os:Nat→Option AO}:H2 os []=some []:=rfl
theorem Acm {os:Nat→Option AO} {x:AV} {l:List AV}:H2 os (x :: l)=oc2 (Fe os x) (H2 os l):=by
 unfold oc2; rfl
theorem Alv {x:AV} {l:List AV}:oc2 (some x) (some l)=some (x :: l):=rfl
theorem Afa {os:Nat→Option AO} {cs:List AV}:Gb os (.agg cs)=(H2 os cs).map .agg:=rfl
theorem Afk {os:Nat→Option AO} {n len:Nat}:Gb os (.own n len)=(Dd os (.own n len)).map fun es=>.p (.sl es):=rfl
theorem Amp {os:Nat→Option AO} {x:PV}:Fe os (.p x)=some (.p x):=rfl
theorem Ae1 {os:Nat→Option AO} {n len:Nat}:Fe os (.own n len)=(Dd os (.own n len)).map fun es=>.p (.sl es):=rfl
def elO (len:Nat):Option AO→Option (List (List PV))
 | some (.arr _ es)=>if len≤es.length then some (es.take len) else none
 | _=>none
theorem Anr {os:Nat→Option AO} {n len:Nat}:Dd os (.own n len)=elO len (os n):=by unfold elO; rfl
theorem Xx {k len:Nat} {es:List (List PV)}:elO len (some (.arr k es))=if len≤es.length then some (es.take len) else none:=rfl
theorem A7 {α:Type} (I:α→St) (μ:α→Nat) (ok:α→Prop) {c:Code} (x0:α) (h0:ok x0) (hle:(I x0).le s)
  (hstep:∀ x,ok x→∀ L:St→Prop,(∀ y s',ok y→μ y < μ x→(I y).le s'→L s')→AWP P r N c (I x) (H7 L Q)):AWP P r N (.loop c) s Q:=
 Alq I μ ok x0 h0 hle fun x hx=>hstep x hx _ fun y _ h1 h2 h3=>⟨y,h1,h2,h3⟩
end
end AM
namespace AM
open Go
theorem Aid {l:List Int} {k:Nat} (h:k < l.length):(l.map fun n=>[iv n]).getD k []=[iv (l.getD k 0)]:=E6 _ _ _ h
theorem Am3 {c:Prop} [Decidable c] {α:Type} {a b:α} (h:c):(if c then a else b)=a:=if_pos h
end AM
namespace AM
open Go
theorem Afu {d:Nat} {k:TK} {sz b:Nat} {z:List Value}:Aia d ⟨k,sz,b,z⟩=if z.all Value.oneCell'∧sz=z.length∧0 < sz∧(TI.agg ⟨k,sz,b,z⟩).isSome then some (.new (.cells (E7 z)) (.ptr d 0)) else none:=rfl
theorem Amr {k:IntKind} {n:Int}:(Value.int k n).oneCell'=true:=rfl
theorem Aju {b:Bool}:(Value.bool b).oneCell'=true:=rfl
theorem Afz {a:Option Addr} {l c:Nat}:(Value.slice a l c).oneCell'=true:=rfl
theorem Amt {a:Option Addr}:(Value.pointer a).oneCell'=true:=rfl
theorem Ami {a:Option Nat}:(Value.map a).oneCell'=true:=rfl
theorem Agz:E7 []=[]:=rfl
theorem Abp {v:Value} {l:List Value}:E7 (v :: l)=.p (.val v) :: E7 l:=rfl
theorem Yy {α:Type} {cs:List α} {off:Nat}:Bd cs off []=cs:=rfl
theorem Wc {α:Type} {cs vs:List α} {v:α} {off:Nat}:Bd cs off (v :: vs)=Bd (cs.set off v) (off+1) vs:=rfl
theorem Aml:Lv []=some []:=rfl
def Ap4 (x:Option PV) (y:Option (List PV)):Option (List PV):=match x,y with | some a,some b=>some (a :: b) | _,_=>none
theorem Ahi {x:PV} {l:List AV}:Lv (.p x :: l)=Ap4 (some x) (Lv l):=by unfold Ap4; rfl
theorem Afe {x:PV} {l:List PV}:Ap4 (some x) (some l)=some (x :: l):=rfl
theorem Vz {f:Int→Int→Int} {k:IntKind} {n:Int} {l:List AV}:Cn f (.p (.val (.int k n)) :: l)=(Cn.go f k n l).map fun m=>.int k m:=rfl
theorem Ab5 {f:Int→Int→Int} {k:IntKind} {n:Int}:Cn.go f k n []=some n:=rfl
theorem Aa3 {f:Int→Int→Int} {k:IntKind} {n m:Int} {l:List AV}:Cn.go f k n (.p (.val (.int k m)) :: l)=Cn.go f k (f n m) l:=by simp [Cn.go]
end AM
namespace AM
open Go
section
variable {P:Program} {r:RB} {N:Nat} {s:St} {K:St→Prop} {dst:Option Nat} {ty:TypeId} {pos:String} {after:Array Edge} {g:Option (Nat × Bool)} {os:Nat→Option AO}
def Acv (P:Program) (ti:TI) (ps:List (Nat × AV)):Option Eff:=
  if ti.zero.all Value.oneCell'∧ti.sz=ti.zero.length∧0 < ti.sz then
   match ti.k with
   | .struct fs=>if fs.all (fun f=>(Ab P f.2).agg.isSome)=false then none else (B6 (E7 ti.zero) (fun i=>(fs[i]?).map fun f=>(f.1,(Ab P f.2).sz)) ps).map fun cs=>.pure (.agg cs)
   | .arr _ e=>if (Ab P e).agg.isSome=false then none else (B6 (E7 ti.zero) (fun i=>some (i * (Ab P e).sz,(Ab P e).sz)) ps).map fun cs=>.pure (.agg cs)
   | _=>none
  else none
theorem Ala {t:TypeId} {parts:Array (Nat × Operand)}:EO P r N ⟨dst,.build t parts,ty,pos,after,g⟩ s K=EOp r.b N dst s K (Acv P (Ab P t) (parts.toList.map fun p=>(p.1,ev s.t p.2))):=C9 rfl rfl rfl
theorem Vl {fs:List (Nat × Nat)} {sz b:Nat} {z:List Value} {ps:List (Nat × AV)}:Acv P ⟨.struct fs,sz,b,z⟩ ps=if z.all Value.oneCell'∧sz=z.length∧0 < sz then (if fs.all (fun f=>(Ab P f.2).agg.isSome)=false then none else (B6 (E7 z) (fun i=>(fs[i]?).map fun f=>(f.1,(Ab P f.2).sz)) ps).map fun cs=>.pure (.agg cs)) else none:=rfl
theorem Ac1 {n e sz b:Nat} {z:List Value} {ps:List (Nat × AV)}:Acv P ⟨.arr n e,sz,b,z⟩ ps=if z.all Value.oneCell'∧sz=z.length∧0 < sz then (if (Ab P e).agg.isSome=false then none else (B6 (E7 z) (fun i=>some (i * (Ab P e).sz,(Ab P e).sz)) ps).map fun cs=>.pure (.agg cs)) else none:=rfl
def Aj9 (zero:List AV) (place:Nat→Option (Nat × Nat)) (r:List (Nat × AV)):Option (Nat × Nat)→Option (List AV)→Option (List AV)
 | some (off,sz),some cs=>if cs.length=sz∧off+cs.length≤zero.length then B6 (Bd zero off cs) place r else none
 | _,_=>none
theorem V7 {zero:List AV} {place:Nat→Option (Nat × Nat)}:B6 zero place []=some zero:=rfl
theorem T1 {zero:List AV} {place:Nat→Option (Nat × Nat)} {i:Nat} {x:AV} {r:List (Nat × AV)}:B6 zero place ((i,x) :: r)=Aj9 zero place r (place i) x.cs?:=by
 rw [B6]; unfold Aj9; rfl
theorem Ada {zero:List AV} {place:Nat→Option (Nat × Nat)} {r:List (Nat × AV)} {off sz:Nat} {cs:List AV}:Aj9 zero place r (some (off,sz)) (some cs)=if cs.length=sz∧off+cs.length≤zero.length then B6 (Bd zero off cs) place r else none:=rfl
def gBS (ti:TI) (d len:Nat):Option (List (List PV))→Option Eff
 | some es=>if es.length=len∧ti.agg.isSome∧len * ti.sz≤16777216∧(len=0∨(ti.sz=ti.zero.length∧0 < ti.sz)) then some (.new (.arr ti.sz es) (.own d len)) else none
 | none=>none
theorem Abc {ti:TI} {d len:Nat} {es:List (List PV)}:gBS ti d len (some es)=if es.length=len∧ti.agg.isSome∧len * ti.sz≤16777216∧(len=0∨(ti.sz=ti.zero.length∧0 < ti.sz)) then some (.new (.arr ti.sz es) (.own d len)) else none:=rfl
def fBS (P:Program) (d len:Nat) (ps:List (Nat × AV)):TK→Option Eff
 | .sl e=>gBS (Ab P e) d len (Bu (Ab P e).sz 0 ps)
 | _=>none
theorem Ah1 {d len e:Nat} {ps:List (Nat × AV)}:fBS P d len ps (.sl e)=gBS (Ab P e) d len (Bu (Ab P e).sz 0 ps):=rfl
theorem Vs {t:TypeId} {n:Nat} {parts:Array (Nat × Operand)}:EO P r N ⟨dst,.buildSlice t n parts,ty,pos,after,g⟩ s K=EOp r.b N dst s K (fBS P (r.b+dst.getD 0) n (parts.toList.map fun p=>(p.1,ev s.t p.2)) (Ab P t).k):=by
 refine C9 rfl rfl ?_
 simp only [eff]
 cases (Ab P t).k <;> simp only [fBS]
 unfold gBS
 cases Bu _ _ _ <;> rfl
def oPE (i j k:Nat) (x:Option (List PV)) (y:Option (List (List PV))):Option (List (List PV)):=match x,y with
 | some c,some es=>if j=i∧c.length=k then some (c :: es) else none
 | _,_=>none
theorem V2 {k i:Nat}:Bu k i []=some []:=rfl
theorem T3 {k i j:Nat} {x:AV} {l:List (Nat × AV)}:Bu k i ((j,x) :: l)=oPE i j k (x.cs?.bind Lv) (Bu k (i+1) l):=by
 rw [Bu]; unfold oPE; rfl
theorem Ake {i j k:Nat} {c:List PV} {es:List (List PV)}:oPE i j k (some c) (some es)=if j=i∧c.length=k then some (c :: es) else none:=rfl
theorem Y4 {i:Nat} {t:TypeId}:Gj P s (.cell i t)=match s.t i,(Ab P t).agg with
  | .ptr n off,some g=>match s.o n with
   | some (.cells cs)=>(Ay g (Ab P t).sz (cs.drop off)).bind (Gb s.o)
   | _=>none
  | _,_=>none:=rfl
def Ad0 (_:Program) (sz off:Nat) (g:Bool) (os:Nat→Option AO):Option AO→Option AV
 | some (.cells cs)=>(Ay g sz (cs.drop off)).bind (Gb os)
 | _=>none
theorem Y7 {sz off:Nat} {b:Bool} {cs:List AV}:Ad0 P sz off b os (some (.cells cs))=(Ay b sz (cs.drop off)).bind (Gb os):=rfl
def Ahw (P:Program) (sz:Nat) (os:Nat→Option AO):AV→Option Bool→Option AV
 | .ptr n off,some g=>Ad0 P sz off g os (os n)
 | _,_=>none
theorem Agk {sz n off:Nat} {b:Bool}:Ahw P sz os (.ptr n off) (some b)=Ad0 P sz off b os (os n):=rfl
theorem Aas {i:Nat} {t:TypeId}:Gj P s (.cell i t)=Ahw P (Ab P t).sz s.o (s.t i) (Ab P t).agg:=by
 rw [Y4]; unfold Ahw Ad0; rfl
def Ay1 (x y:Option AV):Option AV:=match x,y with | some a,some b=>some (.tup [a,b]) | _,_=>none
theorem Afv {x y:ResultVar}:(Ea P s [x,y]).map Fz=Ay1 (Gj P s x) (Gj P s y):=by
 simp only [Ea]
 cases Gj P s x <;> cases Gj P s y <;> rfl
theorem Nj {x y:AV}:Ay1 (some x) (some y)=some (.tup [x,y]):=rfl
theorem Yn {α:Type} (l:List α):[]++l=l:=rfl
end
end AM
namespace AM
open Go
theorem RB.b_mk {r:RX} {b:Nat} {v q:List Nat}:RB.b ⟨r,b,v,q⟩=b:=rfl
theorem RB.v_mk {r:RX} {b:Nat} {v q:List Nat}:RB.v ⟨r,b,v,q⟩=v:=rfl
theorem RB.q_mk {r:RX} {b:Nat} {v q:List Nat}:RB.q ⟨r,b,v,q⟩=q:=rfl
end AM
namespace AM
open Go
theorem Z9:Value.nilFunc.oneCell'=true:=rfl
theorem Ac0 (t:Nat→AV):ev t (.const .nilFunc)=.p (.val .nilFunc):=rfl
end AM
namespace AM
open Go
section
variable {P:Program} {r:RB} {N:Nat} {s:St} {K:St→Prop} {dst:Option Nat} {ty:TypeId} {pos:String} {after:Array Edge} {g:Option (Nat × Bool)}
def EMm (r:RB) (N:Nat) (dst:Option Nat) (s:St) (K:St→Prop):Prop:=∃ dd X,Ain X∧dst=some dd∧dd < N∧s.o (r.b+dd)=none∧K ((s.setO (r.b+dd) (.obj X)).put dst (.mp (r.b+dd)))
theorem Ade {t:TypeId}:EO P r N ⟨dst,.makeMap t none,ty,pos,after,g⟩ s K=EMm r N dst s K:=by unfold EO; rw [if_pos (by rfl)]; rfl
theorem Afm {d:Nat} (n:Nat) (gg:List Int→Int) (h1:d < N) (h2:s.o (r.b+d)=none) (h3:K ((s.setO (r.b+d) (.obj (Mc n gg))).put (some d) (.mp (r.b+d)))):EMm r N (some d) s K:=⟨d,_,.inl ⟨n,_,rfl⟩,rfl,h1,h2,h3⟩
def EMl (P:Program) (N:Nat) (t:TypeId) (x i:AV) (dst:Option Nat) (s:St) (K:St→Prop):Prop:=Cm N dst=true∧∃ A B,LV P t x i s.o A B∧K (s.put dst A)∧K (s.put dst B)
theorem Ag7 {t:TypeId} {x i:Operand}:EO P r N ⟨dst,.lookup t x i true,ty,pos,after,g⟩ s K=EMl P N t (ev s.t x) (ev s.t i) dst s K:=by unfold EO; rw [if_pos (by rfl)]; rfl
theorem Ac8 {t k e:TypeId} {m n:Nat} {gg:List Int→Value} {z:Value} {cs:List AV} {ks:List Int} (h0:Cm N dst=true) (h1:(Ab P t).k=.mp k e) (h2:∀ w,(zeroValue e).run P w=.ok z w) (f1:F0 z=true) (f2:F0 (gg ks)=true) (h3:Jy P k n) (h5:s.o m=some (.obj (Kq n gg))) (h7:Ck cs=some ks) (h8:ks.length=n) (h9:ks.all inR=true)
  (h10:K (s.put dst (.tup [B4 (gg ks),.p (.val (.bool true))]))) (h11:K (s.put dst (.tup [B4 z,.p (.val (.bool false))]))):EMl P N t (.mp m) (.agg cs) dst s K:=⟨h0,_,_,⟨k,e,m,n,z,cs,ks,h1,h2,f1,h3,rfl,rfl,h7,h8,h9,.inl ⟨gg,f2,h5,rfl,rfl⟩⟩,h10,h11⟩
theorem Aew {t k e:TypeId} {m n:Nat} {gg:List Int→Int} {cs:List AV} {ks:List Int} (h0:Cm N dst=true) (h1:(Ab P t).k=.mp k e) (h2:∀ w,(zeroValue e).run P w=.ok (.int .i64 0) w) (h3:Jy P k n) (h5:s.o m=some (.obj (Mc n gg))) (h7:Ck cs=some ks) (h8:ks.length=n) (h9:ks.all inR=true)
  (h10:K (s.put dst (.tup [.p (.val (.int .i64 (gg ks))),.p (.val (.bool true))]))) (h11:K (s.put dst (.tup [.p (.val (.int .i64 0)),.p (.val (.bool false))]))):EMl P N t (.mp m) (.agg cs) dst s K:=Ac8 h0 h1 h2 rfl rfl h3 h5 h7 h8 h9 h10 h11
def EMu (P:Program) (t:TypeId) (x i v:AV) (dst:Option Nat) (s:St) (K:St→Prop):Prop:=dst=none∧∃ s',UV P t x i v s s'∧K s'
theorem Y0 {t:TypeId} {x i v:Operand}:EO P r N ⟨dst,.mapUpdate t x i v,ty,pos,after,g⟩ s K=EMu P t (ev s.t x) (ev s.t i) (ev s.t v) dst s K:=by unfold EO; rw [if_pos (by rfl)]; rfl
theorem Adb {t k e:TypeId} {m n:Nat} {gg:List Int→Value} {cs:List AV} {ks:List Int} {y:AV} (h1:(Ab P t).k=.mp k e) (h3:Jy P k n) (h5:s.o m=some (.obj (Kq n gg))) (h7:Ck cs=some ks) (h8:ks.length=n) (h9:ks.all inR=true) (f1:F0 (gg ks)=true) (hy:y=B4 (gg ks)) (h11:K s):EMu P t (.mp m) (.agg cs) y none s K:=
 ⟨rfl,s,⟨k,e,m,n,cs,ks,h1,h3,rfl,rfl,h7,h8,h9,.inl ⟨gg,h5,f1,hy,rfl⟩⟩,h11⟩
theorem Af8 {t k e:TypeId} {m n:Nat} {gg:List Int→Int} {cs:List AV} {ks:List Int} {y:Int} (h1:(Ab P t).k=.mp k e) (h3:Jy P k n) (h5:s.o m=some (.obj (Mc n gg))) (h7:Ck cs=some ks) (h8:ks.length=n) (h9:ks.all inR=true) (hy:y=gg ks) (h11:K s):EMu P t (.mp m) (.agg cs) (.p (.val (.int .i64 y))) none s K:=
 Adb (gg:=fun ks=>.int .i64 (gg ks)) h1 h3 h5 h7 h8 h9 rfl (by rw [hy]; rfl) h11
end
structure MT (p:Prop):Prop where
 x:p
structure ME (p:Prop):Prop where
 x:p
theorem Af {P:Program} {r:RB} {N:Nat} {st:St} {Q:AEx→St→Prop} {id:Nat} {ops:List Oper} {c:Code} (h:∀ K:St→Prop,(∀ s,AWP P r N c s Q→K s)→EL P r N ops ops st K):AWP P r N (.seq (.region id ops.toArray false) c) st Q:=
 Aa fun K hK=>Ac (h K hK)
theorem nrm:(∀ b:Bool,(!b)=true↔b=false)∧(∀ (p:Prop) [Decidable p],decide p=true↔p)∧(∀ (p:Prop) [Decidable p],decide p=false↔¬ p)∧(∀ b c:Bool,(b&&c)=true↔b=true∧c=true)∧(∀ b:Bool,(!b)=false↔b=true)∧(∀ b:Bool,(!!b)=b)∧(∀ (p:Prop) [Decidable p],decide (¬ p)=!decide p)∧(!true)=false∧(!false)=true:=by
 refine ⟨fun b=>?_,fun p _=>?_,fun p _=>?_,fun b c=>?_,fun b=>?_,fun b=>?_,fun p _=>?_,rfl,rfl⟩ <;> simp
def AV.known:AV→Bool
 | .undef=>false
 | _=>true
def Lj:AV→Option Nat
 | .ptr n _=>some n
 | .eptr n _ _ _=>some n
 | _=>none
inductive Cf where
 | sto (ts:List Nat) (x:Nat)
 | app (ts:List Nat)
def Cf.ok (t:Nat→AV):Cf→Bool
 | .sto ts x=>match Lj (t x) with
  | some n=>ts.all fun i=>(t i).known&&(t i).clean n
  | none=>false
 | .app ts=>ts.all fun i=>(t i).known
def Cf.temps:Cf→List Nat
 | .sto ts x=>x :: ts
 | .app ts=>ts
def Yc (v:List Nat) (o:Oper):Bool:=(qop o.op&&!isV v o.op)||(Mz o.op&&o.guard.isNone&&o.dst.isNone)||(Hj o.op&&o.guard.isNone)
section
variable {P:Program} {r:RB} {N:Nat} {all:List Oper}
theorem Ams {d:Nat} {t:TypeId} {x v:Operand} {ρ:Operand→AV} {os:Nat→Option AO} {e:Eff} (he:eff P d (.store t x v) ρ os=some e):∃ n o,e=.upd n o∧Lj (ρ x)=some n∧(os n).isSome=true∧∀ d' os',os' n=os n→eff P d' (.store t x v) ρ os'=some e:=by
 simp only [eff] at he
 split at he
 ·rename_i vs g hvs hg
  split at he
  ·rename_i hl
   split at he
   ·rename_i n off hx
    split at he
    ·rename_i cs hn
     split at he
     ·rename_i hc
      cases he
      refine ⟨n,_,rfl,by rw [hx]; rfl,by rw [hn]; rfl,fun d' os' ho=>?_⟩
      simp only [eff,hvs,hg,hx,ho,hn]
      rw [if_pos hl,if_pos hc]
     ·cases he
    ·cases he
   ·rename_i n k i off hx
    split at he
    ·rename_i k' es ps hn hp
     split at he
     ·rename_i hc
      cases he
      refine ⟨n,_,rfl,by rw [hx]; rfl,by rw [hn]; rfl,fun d' os' ho=>?_⟩
      simp only [eff,hvs,hg,hx,ho,hn,hp]
      rw [if_pos hl,if_pos hc]
     ·cases he
    ·cases he
   ·cases he
  ·cases he
 ·cases he
theorem Qq {x:AV} {n:Nat} (h:Lj x=some n):x.known=true∧x.clean n=false:=by
 unfold Lj at h
 split at h
 ·cases h; exact ⟨rfl,by simp [AV.clean]⟩
 ·cases h; exact ⟨rfl,by simp [AV.clean]⟩
 ·cases h
theorem Adi {d:Nat} {op:Op} {ρ:Operand→AV} {os:Nat→Option AO} {n:Nat} {o:AO} {x:AV} (h:Hj op=true) (he:eff P d op ρ os=some (.app n o x)):∃ k es,os n=some (.arr k es):=by
 unfold Hj at h
 split at h
 ·rename_i as ts
  simp only [eff] at he
  split at he
  ·split at he
   ·split at he
    ·split at he
     ·split at he
      ·split at he
       ·cases he
       ·cases he
      ·split at he
       ·rename_i hn
        split at he
        ·cases he; exact ⟨_,_,hn⟩
        ·cases he
       ·cases he
      ·cases he
     ·cases he
    ·cases he
   ·cases he
  ·cases he
 ·cases h
theorem Mf {s:St} {dst:Option Nat} {x:AV} {i:Nat} (h:dst≠some i):(s.put dst x).t i=s.t i:=by
 cases dst with
 | none=>rfl
 | some d=>exact Ao (fun e=>h (by rw [e]))
theorem Qm {K:St→Prop}:∀ {l:List Oper} {s:St},s.closed→(∀ o ∈ l,Yc r.v o=true)→EL P r N all l s K→∃ s',K s'∧∀ t,(∀ o ∈ l,o.dst≠some t)→s'.t t=s.t t∨s'.t t=.undef
 | [],s,_,_,h=>⟨s,h,fun _ _=>.inl rfl⟩
 | o :: l,s,hc,ht,h=>by
  have h0:=ht o (by simp)
  have hl:∀ o ∈ l,Yc r.v o=true:=fun q hq=>ht q (by simp [hq])
  have step:∀ s1:St,s1.closed→EL P r N all l s1 K→(∀ t,o.dst≠some t→s1.t t=s.t t∨s1.t t=.undef)→∃ s',K s'∧∀ t,(∀ q ∈ o :: l,q.dst≠some t)→s'.t t=s.t t∨s'.t t=.undef:=by
   intro s1 hc1 h1 h2
   obtain ⟨s',hK,h3⟩:=Qm hc1 hl h1
   refine ⟨s',hK,fun t htt=>?_⟩
   rcases h3 t (fun q hq=>htt q (by simp [hq])) with h4 | h4
   ·rw [h4]; exact h2 t (htt o (by simp))
   ·exact .inr h4
  simp only [Yc,Bool.or_eq_true,Bool.and_eq_true,Bool.not_eq_true',Option.isNone_iff_eq_none] at h0
  rcases h0 with (h0 | h0) | h0
  ·rw [E1 h0.1 h0.2 hc] at h
   obtain ⟨_,x,ob,h2,h3⟩:=h
   exact step _ (Kj h0.1 hc h2) h3 fun t htt=>.inl (Hq htt)
  ·obtain ⟨f1,f2,f3⟩:=Hw h0.1.1
   rw [Bi h0.1.2 f1 f2 f3] at h
   obtain ⟨_,e,s',he,hs',h3⟩:=h
   obtain ⟨n,ob,rfl,h5,_⟩:=G2 h0.1.1 hc he
   cases hs'
   refine step _ (C6 (G8 hc h5) (AV.lives_undef _)) h3 fun t htt=>.inl ?_
   rw [Mf htt]; rfl
  ·obtain ⟨f1,f2,f3⟩:=Gh h0.1
   rw [Bi h0.2 f1 f2 f3] at h
   obtain ⟨_,e,s',he,hs',h3⟩:=h
   rcases G7 h0.1 he with ⟨k,es,len,rfl⟩ | ⟨n,k,es,len,rfl⟩
   ·obtain ⟨d,hd,_,rfl⟩:=Dh hs'
    refine step _ (Dt hc (AO.lives_arr _ _ _) (fun m hm=>by rw [hd] at hm; exact Em m hm)) h3 fun t htt=>.inl ?_
    rw [← hd,Mf htt]; rfl
   ·obtain ⟨d,hd,_,rfl⟩:=Ey hs'
    refine step _ (Dt (Fc hc n) (AO.lives_arr _ _ _) (fun m hm=>by rw [hd] at hm; exact Em m hm)) h3 fun t htt=>?_
    rw [← hd,Mf htt]
    exact Co n (s.t t)
def Lw (P:Program) (r:RB) (N:Nat) (all:List Oper) (D:(Nat→AV)→Prop) (i j:Oper) (l:List Oper):Prop:=
 ∀ s K,s.closed→(∀ s':St,K s'→D s'.t)→EL P r N all (i :: j :: l) s K→EL P r N all (j :: i :: l) s K
theorem Rk {D:(Nat→AV)→Prop} {i j:Oper} {l:List Oper} (h:G5 P r N all i j):Lw P r N all D i j l:=fun s K hc _ hE=>h l s K hc hE
theorem Abw {D:(Nat→AV)→Prop} {j i:Oper} {l:List Oper} {t:TypeId} {xt:Nat} {v:Operand} (hj:qop j.op=true) (hjv:isV r.v j.op=false) (hi:i.op=.store t (.tmp xt) v) (hig:i.guard=none) (hid:i.dst=none) (hap:j.apart all.toArray i=true)
  (htame:∀ o ∈ l,Yc r.v o=true) (hfree:∀ q ∈ (Cf.sto (j.looksAt all.toArray) xt).temps,j.dst≠some q∧∀ o ∈ l,o.dst≠some q) (hD:∀ f,D f→Cf.ok f (.sto (j.looksAt all.toArray) xt)=true):Lw P r N all D j i l:=by
 intro s K hc hK hE
 have hsto:Mz i.op=true:=by rw [hi]; rfl
 obtain ⟨f1,f2,f3⟩:=Hw hsto
 obtain ⟨a1,a2,a3⟩:=Oper.apart_spec hap
 rw [E1 hj hjv hc] at hE
 obtain ⟨h1,x,ob,h2,h3⟩:=hE
 have hc1:=Kj hj hc h2
 rw [Bi hig f1 f2 f3] at h3
 obtain ⟨h4,e,s2,he,hs2,h5⟩:=h3
 rw [hi] at he
 obtain ⟨n,o,rfl,hname,hlive,hloc⟩:=Ams he
 have hs2':s2=(C3 r.b j.dst x ob s).setO n o:=by rw [hid] at hs2; cases hs2; rfl
 have hc2:s2.closed:=by
  rw [hs2']
  obtain ⟨n',o',e1,e2,_⟩:=G2 (P:=P) (d:=r.b+i.dst.getD 0) (op:=i.op) hsto hc1 (by rw [hi]; exact he)
  cases e1
  exact G8 hc1 e2
 obtain ⟨s',hKs,hfin⟩:=Qm hc2 htame h5
 have hok:=hD _ (hK _ hKs)
 have hval:∀ q ∈ (Cf.sto (j.looksAt all.toArray) xt).temps,(s'.t q).known=true→s'.t q=s.t q:=fun q hq hkn=>by
  have h6:=(hfree q hq)
  rcases hfin q h6.2 with h7 | h7
  ·rw [h7,hs2']
   exact Hq h6.1
  ·rw [h7] at hkn; cases hkn
 simp only [Cf.ok] at hok
 split at hok
 ·rename_i n' hn'
  have hkx:(s'.t xt).known=true:=(Qq hn').1
  have hxs:=hval xt (by simp [Cf.temps]) hkx
  have hx1:(C3 r.b j.dst x ob s).t xt=s.t xt:=Hq (hfree xt (by simp [Cf.temps])).1
  have hev:ev (C3 r.b j.dst x ob s).t (.tmp xt)=s.t xt:=hx1
  rw [hev,← hxs,hn'] at hname
  cases hname
  rw [List.all_eq_true] at hok
  have hlook:∀ q ∈ j.looksAt all.toArray,(s.t q).clean n=true:=fun q hq=>by
   have h6:=hok q hq
   simp only [Bool.and_eq_true] at h6
   rw [← hval q (by simp [Cf.temps,hq]) h6.1]
   exact h6.2
  have hns:(s.o n).isSome=true:=hc.1 xt n (by
   rw [← hxs]
   exact (Qq hn').2)
  have hne:∀ d,j.dst=some d→ob≠none→r.b+d≠n:=fun d hd hob=>by
   cases hob2:ob with
   | none=>exact absurd hob2 hob
   | some a=>
    rw [hob2] at h2
    obtain ⟨d',hd',hnone⟩:=Yo h2
    rw [hd] at hd'; cases hd'
    intro e; rw [e] at hnone; rw [hnone] at hns; cases hns
  have ho1:(C3 r.b j.dst x ob s).o n=s.o n:=Nr (by
   by_cases hob:ob=none
   ·exact .inr hob
   ·exact .inl fun d hd=>hne d hd hob)
  have heff:eff P (r.b+i.dst.getD 0) i.op (ev s.t) s.o=some (.upd n o):=by
   rw [hi]
   have h7:=hloc (r.b+i.dst.getD 0) s.o ho1.symm
   rw [← h7]
   exact (Ns (P:=P) (d:=r.b+i.dst.getD 0) (os:=s.o) (op:=.store t (.tmp xt) v) rfl fun y hy=>by
    have hyi:y ∈ i.op.operands.toList:=by rw [hi]; exact hy
    cases y with
    | tmp q=>exact (Hq (fun e=>a1 q e (Cx hyi rfl))).symm
    | _=>rfl)
  have hGS:GS P r.b all j (s.setO n o) x ob:=My (s:=s) (s':=s.setO n o) hj ⟨fun q hq=>rfl,fun q hq m hm=>Ao (fun e=>by subst e; rw [hlook q hq] at hm; cases hm),fun d hd hnone=>by
   show upd s.o n (some o) (r.b+d)=none
   rw [Ao (fun e=>by rw [← e] at hns; rw [hnone] at hns; cases hns)]
   exact hnone⟩ h2
  rw [Bi hig f1 f2 f3]
  refine ⟨h4,_,s.setO n o,heff,by rw [hid]; rfl,?_⟩
  have hc':(s.setO n o).closed:=by
   obtain ⟨n',o',e1,e2,_⟩:=G2 (P:=P) (d:=r.b+i.dst.getD 0) (op:=i.op) hsto hc heff
   cases e1
   exact G8 hc e2
  rw [E1 hj hjv hc']
  refine ⟨h1,x,ob,hGS,?_⟩
  have e9:C3 r.b j.dst x ob (s.setO n o)=s2:=by
   rw [hs2']
   cases hd:j.dst with
   | none=>cases ob <;> rfl
   | some d=>
    cases hob:ob with
    | none=>rfl
    | some a=>
     have hne':=hne d hd (by rw [hob]; simp)
     simp only [C3,St.put,St.setO]
     congr 1
     exact Cq (Ne.symm hne')
  rw [e9]; exact h5
 ·cases hok
theorem X5 {D:(Nat→AV)→Prop} {j i:Oper} {l:List Oper} {t:TypeId} {xt:Nat} (hj:j.op=.load t (.tmp xt)) (hjg:j.guard=none) (hag:(Ab P t).agg=some false) (hi:Hj i.op=true) (hig:i.guard=none) (hap:j.apart all.toArray i=true)
  (htame:∀ o ∈ l,Yc r.v o=true) (hfree:∀ q ∈ [xt],j.dst≠some q∧i.dst≠some q∧∀ o ∈ l,o.dst≠some q) (hD:∀ f,D f→Cf.ok f (.app [xt])=true):Lw P r N all D j i l:=by
 intro s K hc hK hE
 obtain ⟨f1,f2,f3⟩:=Gh hi
 obtain ⟨a1,a2,a3⟩:=Oper.apart_spec hap
 have q1:Ct j.op=false:=by rw [hj]; rfl
 have q2:Ds j.op=false:=by rw [hj]; rfl
 have q3:isM j.op=false:=by rw [hj]; rfl
 rw [Bi hjg q1 q2 q3] at hE
 obtain ⟨h1,e,s1,he,hs1,h2⟩:=hE
 have hld:∀ (ρ:Operand→AV) os d,eff P d (.load t (.tmp xt)) ρ os=Ec (Ab P t).agg (Ab P t).sz os (ρ (.tmp xt)):=fun _ _ _=>rfl
 rw [hj,hld,hag] at he
 have hpure:∃ y,e=.pure y:=by
  unfold Ec at he
  simp only [] at he
  split at he
  ·split at he
   ·obtain ⟨y,_,rfl⟩:=Option.map_eq_some_iff.1 he; exact ⟨y,rfl⟩
   ·cases he
  ·split at he
   ·split at he
    ·obtain ⟨y,_,rfl⟩:=Option.map_eq_some_iff.1 he; exact ⟨y,rfl⟩
    ·cases he
   ·cases he
  ·obtain ⟨y,_,rfl⟩:=Option.map_eq_some_iff.1 he; exact ⟨y,rfl⟩
  ·cases he
 obtain ⟨y,rfl⟩:=hpure
 have hs1':s1=s.put j.dst y:=by cases hs1; rfl
 subst hs1'
 rw [Bi hig f1 f2 f3] at h2
 obtain ⟨h3,e2,s2,he2,hs2,h4⟩:=h2
 have ho:(s.put j.dst y).o=s.o:=by cases j.dst <;> rfl
 have he2':eff P (r.b+i.dst.getD 0) i.op (ev s.t) s.o=some e2:=by
  rw [← he2,ho]
  exact (Fy hi fun x hx=>Jm (fun d hd hxd=>a1 d hd (Cx hx hxd))).symm
 have hxf:=hfree xt (by simp)
 rw [Bi hig f1 f2 f3]
 rcases G7 hi he2' with ⟨k,es,len,rfl⟩ | ⟨n,k,es,len,rfl⟩
 ·obtain ⟨d,hd,hn,rfl⟩:=Dh hs2
  rw [ho] at hn
  refine ⟨h3,_,(s.setO (r.b+d) (.arr k es)).put (some d) (.own (r.b+i.dst.getD 0) len),he2',by rw [hd]; simp [Eff.apply,hn],?_⟩
  rw [Bi hjg q1 q2 q3]
  refine ⟨h1,.pure y,_,?_,rfl,?_⟩
  ·rw [hj,hld,hag]
   have e1:ev ((s.setO (r.b+d) (.arr k es)).put (some d) (.own (r.b+i.dst.getD 0) len)).t (.tmp xt)=ev s.t (.tmp xt):=by
    show ((s.setO (r.b+d) (.arr k es)).put (some d) _).t xt=s.t xt
    rw [Mf (by rw [← hd]; exact hxf.2.1)]; rfl
   rw [e1,← he]
   refine Mq fun m hm=>?_
   show upd s.o (r.b+d) _ m=s.o m
   refine Ao (fun em=>?_)
   have h6:=hc.1 xt m hm
   rw [em,hn] at h6; cases h6
  ·have e9:((s.setO (r.b+d) (.arr k es)).put (some d) (.own (r.b+i.dst.getD 0) len)).put j.dst y=((s.put j.dst y).setO (r.b+d) (.arr k es)).put (some d) (.own (r.b+i.dst.getD 0) len):=by
    cases hjd:j.dst with
    | none=>rfl
    | some dj=>
     have hne:dj≠d:=fun e=>a2 dj hjd (by rw [hd,e])
     simp only [St.put,St.setO]
     congr 1
     exact Cq (Ne.symm hne)
   rw [e9]; exact h4
 ·obtain ⟨d,hd,hn,rfl⟩:=Ey hs2
  have hp:((s.put j.dst y).purge n).o=(s.purge n).o:=by cases j.dst <;> rfl
  rw [hp] at hn
  have hc2:((((s.put j.dst y).purge n).setO (r.b+d) (.arr k es)).put (some d) (.own (r.b+i.dst.getD 0) len)).closed:=by
   have hcy:(s.put j.dst y).closed:=by
    have hgd:=Rs (s:=s) (d:=r.b+j.dst.getD 0) (ag:=some false) (sz:=(Ab P t).sz) (x:=ev s.t (.tmp xt)) hc
    rw [he] at hgd
    exact C6 hc (hgd _ rfl)
   exact Dt (Fc hcy n) (AO.lives_arr _ _ _) (fun m hm=>by rw [hd] at hm; exact Em m hm)
  obtain ⟨s',hKs,hfin⟩:=Qm hc2 htame h4
  have hok:=hD _ (hK _ hKs)
  simp only [Cf.ok,List.all_cons,List.all_nil,Bool.and_true] at hok
  have hclean:(s.t xt).purge n=s.t xt:=by
   rcases hfin xt hxf.2.2 with h7 | h7
   ·rw [Mf (by rw [← hd]; exact hxf.2.1)] at h7
    have h8:((s.put j.dst y).purge n).t xt=(s.t xt).purge n:=by
     show ((s.put j.dst y).t xt).purge n=_
     rw [Mf hxf.1]
    rw [show (((s.put j.dst y).purge n).setO (r.b+d) (.arr k es)).t xt=((s.put j.dst y).purge n).t xt from rfl,h8] at h7
    rcases Co n (s.t xt) with h9 | h9
    ·exact h9
    ·rw [h7,h9] at hok; cases hok
   ·rw [h7] at hok; cases hok
  have hcl:(s.t xt).clean n=true:=by rw [← hclean]; exact AV.clean_purge n _
  refine ⟨h3,_,((s.purge n).setO (r.b+d) (.arr k es)).put (some d) (.own (r.b+i.dst.getD 0) len),he2',by rw [hd]; simp [Eff.apply,hn],?_⟩
  rw [Bi hjg q1 q2 q3]
  have e1:ev (((s.purge n).setO (r.b+d) (.arr k es)).put (some d) (.own (r.b+i.dst.getD 0) len)).t (.tmp xt)=s.t xt:=by
   show (((s.purge n).setO (r.b+d) (.arr k es)).put (some d) _).t xt=s.t xt
   rw [Mf (by rw [← hd]; exact hxf.2.1)]
   exact hclean
  have hld2:Ec (some false) (Ab P t).sz (((s.purge n).setO (r.b+d) (.arr k es)).put (some d) (.own (r.b+i.dst.getD 0) len)).o (s.t xt)=some (.pure (y.purge n)):=by
   have he':Ec (some false) (Ab P t).sz s.o (s.t xt)=some (.pure y):=he
   have hoo:∀ m,m≠n→(s.o m).isSome=true→(((s.purge n).setO (r.b+d) (.arr k es)).put (some d) (.own (r.b+i.dst.getD 0) len)).o m=(s.o m).map (AO.purge n):=fun m hm hsm=>by
    show upd (s.purge n).o (r.b+d) _ m=_
    have hmd:m≠r.b+d:=fun em=>by
     have h6:(s.purge n).o m=(s.o m).map (AO.purge n):=St.purge_o_other s hm
     rw [em] at h6 hsm
     rw [hn] at h6
     rw [← Option.isSome_map (f:=AO.purge n),← h6] at hsm; cases hsm
    rw [Ao hmd]
    exact St.purge_o_other s hm
   cases hx:s.t xt with
   | ptr m off=>
    rw [hx] at he' hcl
    rw [Ek] at he' ⊢
    have hmn:m≠n:=by simpa [AV.clean] using hcl
    cases hom:s.o m with
    | none=>rw [hom] at he'; cases he'
    | some ao=>
     rw [hoo m hmn (by rw [hom]; rfl),hom]
     rw [hom] at he'
     cases ao with
     | cells cs=>
      simp only [Up,Option.map_some,AO.purge,Ay,Bool.false_eq_true,if_false] at he' ⊢
      rw [← List.map_drop]
      cases hdr:cs.drop off with
      | nil=>rw [hdr] at he'; cases he'
      | cons z zs=>rw [hdr] at he'; simp at he'; subst he'; rfl
     | _=>cases he'
   | eptr m k2 i2 off=>
    rw [hx] at he' hcl
    rw [E2] at he' ⊢
    have hmn:m≠n:=by simpa [AV.clean] using hcl
    cases hom:s.o m with
    | none=>rw [hom] at he'; cases he'
    | some ao=>
     rw [hoo m hmn (by rw [hom]; rfl),hom]
     rw [hom] at he'
     cases ao with
     | arr k3 es3=>
      simp only [T4,Option.map_some,AO.purge] at he' ⊢
      split at he'
      ·rename_i hcc
       rw [if_pos hcc]
       simp only [Ay,Bool.false_eq_true,if_false] at he' ⊢
       cases hdr:((es3.getD i2 []).drop off) with
       | nil=>rw [hdr] at he'; cases he'
       | cons z zs=>rw [hdr] at he'; simp at he'; subst he'; rfl
      ·cases he'
     | _=>cases he'
   | p z=>
    rw [hx] at he'
    cases z with
    | ro cs=>
     rw [Jj] at he' ⊢
     simp only [Ay,Bool.false_eq_true,if_false] at he' ⊢
     cases cs with
     | nil=>cases he'
     | cons z zs=>simp at he'; subst he'; rfl
    | _=>cases he'
   | _=>rw [hx] at he'; cases he'
  refine ⟨h1,.pure (y.purge n),_,by rw [hj,hld,hag,e1]; exact hld2,rfl,?_⟩
  have e9:(((s.purge n).setO (r.b+d) (.arr k es)).put (some d) (.own (r.b+i.dst.getD 0) len)).put j.dst (y.purge n)=(((s.put j.dst y).purge n).setO (r.b+d) (.arr k es)).put (some d) (.own (r.b+i.dst.getD 0) len):=by
   cases hjd:j.dst with
   | none=>rfl
   | some dj=>
    have hne:dj≠d:=fun e=>a2 dj hjd (by rw [hd,e])
    simp only [St.put,St.setO,St.purge]
    congr 1
    rw [Cq (Ne.symm hne)]
    congr 1
    funext q
    unfold upd
    by_cases hq:q=dj
    ·subst hq; simp
    ·simp [hq]
  rw [e9]; exact h4
theorem Pg {n:Nat}:∀ {l:List AV},AV.clean.cleanL n l=true→l.map (AV.purge n)=l
 | [],_=>rfl
 | x :: l,h=>by
  have h':x.clean n=true∧AV.clean.cleanL n l=true:=by simpa [AV.clean.cleanL] using h
  rw [List.map_cons,Pg h'.2]
  congr 1
  unfold AV.purge
  rw [if_pos h'.1]
theorem Ye {D:(Nat→AV)→Prop} {j i:Oper} {l:List Oper} {t:TypeId} {xt:Nat} (hj:j.op=.load t (.tmp xt)) (hjg:j.guard=none) (hag:(Ab P t).agg=some true) {dj:Nat} (hdj:j.dst=some dj) (hfd:i.dst≠some dj∧∀ o ∈ l,o.dst≠some dj) (hi:Hj i.op=true) (hig:i.guard=none) (hap:j.apart all.toArray i=true)
  (htame:∀ o ∈ l,Yc r.v o=true) (hfree:∀ q ∈ [xt],j.dst≠some q∧i.dst≠some q∧∀ o ∈ l,o.dst≠some q) (hD:∀ f,D f→Cf.ok f (.app [xt,dj])=true):Lw P r N all D j i l:=by
 intro s K hc hK hE
 obtain ⟨f1,f2,f3⟩:=Gh hi
 obtain ⟨a1,a2,a3⟩:=Oper.apart_spec hap
 have q1:Ct j.op=false:=by rw [hj]; rfl
 have q2:Ds j.op=false:=by rw [hj]; rfl
 have q3:isM j.op=false:=by rw [hj]; rfl
 rw [Bi hjg q1 q2 q3] at hE
 obtain ⟨h1,e,s1,he,hs1,h2⟩:=hE
 have hld:∀ (ρ:Operand→AV) os d,eff P d (.load t (.tmp xt)) ρ os=Ec (Ab P t).agg (Ab P t).sz os (ρ (.tmp xt)):=fun _ _ _=>rfl
 rw [hj,hld,hag] at he
 have hpure:∃ y,e=.pure y:=by
  unfold Ec at he
  simp only [] at he
  split at he
  ·split at he
   ·obtain ⟨y,_,rfl⟩:=Option.map_eq_some_iff.1 he; exact ⟨y,rfl⟩
   ·cases he
  ·split at he
   ·split at he
    ·obtain ⟨y,_,rfl⟩:=Option.map_eq_some_iff.1 he; exact ⟨y,rfl⟩
    ·cases he
   ·cases he
  ·obtain ⟨y,_,rfl⟩:=Option.map_eq_some_iff.1 he; exact ⟨y,rfl⟩
  ·cases he
 obtain ⟨y,rfl⟩:=hpure
 have hs1':s1=s.put j.dst y:=by cases hs1; rfl
 subst hs1'
 rw [Bi hig f1 f2 f3] at h2
 obtain ⟨h3,e2,s2,he2,hs2,h4⟩:=h2
 have ho:(s.put j.dst y).o=s.o:=by cases j.dst <;> rfl
 have he2':eff P (r.b+i.dst.getD 0) i.op (ev s.t) s.o=some e2:=by
  rw [← he2,ho]
  exact (Fy hi fun x hx=>Jm (fun d hd hxd=>a1 d hd (Cx hx hxd))).symm
 have hxf:=hfree xt (by simp)
 rw [Bi hig f1 f2 f3]
 rcases G7 hi he2' with ⟨k,es,len,rfl⟩ | ⟨n,k,es,len,rfl⟩
 ·obtain ⟨d,hd,hn,rfl⟩:=Dh hs2
  rw [ho] at hn
  refine ⟨h3,_,(s.setO (r.b+d) (.arr k es)).put (some d) (.own (r.b+i.dst.getD 0) len),he2',by rw [hd]; simp [Eff.apply,hn],?_⟩
  rw [Bi hjg q1 q2 q3]
  refine ⟨h1,.pure y,_,?_,rfl,?_⟩
  ·rw [hj,hld,hag]
   have e1:ev ((s.setO (r.b+d) (.arr k es)).put (some d) (.own (r.b+i.dst.getD 0) len)).t (.tmp xt)=ev s.t (.tmp xt):=by
    show ((s.setO (r.b+d) (.arr k es)).put (some d) _).t xt=s.t xt
    rw [Mf (by rw [← hd]; exact hxf.2.1)]; rfl
   rw [e1,← he]
   refine Mq fun m hm=>?_
   show upd s.o (r.b+d) _ m=s.o m
   refine Ao (fun em=>?_)
   have h6:=hc.1 xt m hm
   rw [em,hn] at h6; cases h6
  ·have e9:((s.setO (r.b+d) (.arr k es)).put (some d) (.own (r.b+i.dst.getD 0) len)).put j.dst y=((s.put j.dst y).setO (r.b+d) (.arr k es)).put (some d) (.own (r.b+i.dst.getD 0) len):=by
    cases hjd:j.dst with
    | none=>rfl
    | some dj=>
     have hne:dj≠d:=fun e=>a2 dj hjd (by rw [hd,e])
     simp only [St.put,St.setO]
     congr 1
     exact Cq (Ne.symm hne)
   rw [e9]; exact h4
 ·obtain ⟨d,hd,hn,rfl⟩:=Ey hs2
  have hp:((s.put j.dst y).purge n).o=(s.purge n).o:=by cases j.dst <;> rfl
  rw [hp] at hn
  have hc2:((((s.put j.dst y).purge n).setO (r.b+d) (.arr k es)).put (some d) (.own (r.b+i.dst.getD 0) len)).closed:=by
   have hcy:(s.put j.dst y).closed:=by
    have hgd:=Rs (s:=s) (d:=r.b+j.dst.getD 0) (ag:=some true) (sz:=(Ab P t).sz) (x:=ev s.t (.tmp xt)) hc
    rw [he] at hgd
    exact C6 hc (hgd _ rfl)
   exact Dt (Fc hcy n) (AO.lives_arr _ _ _) (fun m hm=>by rw [hd] at hm; exact Em m hm)
  obtain ⟨s',hKs,hfin⟩:=Qm hc2 htame h4
  have hok:=hD _ (hK _ hKs)
  simp only [Cf.ok,List.all_cons,List.all_nil,Bool.and_true,Bool.and_eq_true] at hok
  have hyc:y.clean n=true:=by
   rcases hfin dj hfd.2 with h7 | h7
   ·rw [Mf (by rw [← hd]; exact hfd.1)] at h7
    have h8:((s.put j.dst y).purge n).t dj=y.purge n:=by
     show ((s.put j.dst y).t dj).purge n=_
     rw [hdj]; simp [St.put]
    rw [show (((s.put j.dst y).purge n).setO (r.b+d) (.arr k es)).t dj=((s.put j.dst y).purge n).t dj from rfl,h8] at h7
    rcases Co n y with h9 | h9
    ·rw [← h9]; exact AV.clean_purge n _
    ·rw [h7,h9] at hok; simp [AV.known] at hok
   ·rw [h7] at hok; simp [AV.known] at hok
  have hyp:y.purge n=y:=by unfold AV.purge; rw [if_pos hyc]
  have hclean:(s.t xt).purge n=s.t xt:=by
   rcases hfin xt hxf.2.2 with h7 | h7
   ·rw [Mf (by rw [← hd]; exact hxf.2.1)] at h7
    have h8:((s.put j.dst y).purge n).t xt=(s.t xt).purge n:=by
     show ((s.put j.dst y).t xt).purge n=_
     rw [Mf hxf.1]
    rw [show (((s.put j.dst y).purge n).setO (r.b+d) (.arr k es)).t xt=((s.put j.dst y).purge n).t xt from rfl,h8] at h7
    rcases Co n (s.t xt) with h9 | h9
    ·exact h9
    ·rw [h7,h9] at hok; simp [AV.known] at hok
   ·rw [h7] at hok; simp [AV.known] at hok
  have hcl:(s.t xt).clean n=true:=by rw [← hclean]; exact AV.clean_purge n _
  refine ⟨h3,_,((s.purge n).setO (r.b+d) (.arr k es)).put (some d) (.own (r.b+i.dst.getD 0) len),he2',by rw [hd]; simp [Eff.apply,hn],?_⟩
  rw [Bi hjg q1 q2 q3]
  have e1:ev (((s.purge n).setO (r.b+d) (.arr k es)).put (some d) (.own (r.b+i.dst.getD 0) len)).t (.tmp xt)=s.t xt:=by
   show (((s.purge n).setO (r.b+d) (.arr k es)).put (some d) _).t xt=s.t xt
   rw [Mf (by rw [← hd]; exact hxf.2.1)]
   exact hclean
  have hld2:Ec (some true) (Ab P t).sz (((s.purge n).setO (r.b+d) (.arr k es)).put (some d) (.own (r.b+i.dst.getD 0) len)).o (s.t xt)=some (.pure (y.purge n)):=by
   have he':Ec (some true) (Ab P t).sz s.o (s.t xt)=some (.pure y):=he
   have hoo:∀ m,m≠n→(s.o m).isSome=true→(((s.purge n).setO (r.b+d) (.arr k es)).put (some d) (.own (r.b+i.dst.getD 0) len)).o m=(s.o m).map (AO.purge n):=fun m hm hsm=>by
    show upd (s.purge n).o (r.b+d) _ m=_
    have hmd:m≠r.b+d:=fun em=>by
     have h6:(s.purge n).o m=(s.o m).map (AO.purge n):=St.purge_o_other s hm
     rw [em] at h6 hsm
     rw [hn] at h6
     rw [← Option.isSome_map (f:=AO.purge n),← h6] at hsm; cases hsm
    rw [Ao hmd]
    exact St.purge_o_other s hm
   cases hx:s.t xt with
   | ptr m off=>
    rw [hx] at he' hcl
    rw [Ek] at he' ⊢
    have hmn:m≠n:=by simpa [AV.clean] using hcl
    cases hom:s.o m with
    | none=>rw [hom] at he'; cases he'
    | some ao=>
     rw [hoo m hmn (by rw [hom]; rfl),hom]
     rw [hom] at he'
     cases ao with
     | cells cs=>
      simp only [Up,Option.map_some,AO.purge,Ay,if_true] at he' ⊢
      split at he'
      ·rename_i hle
       have e5:AV.agg ((cs.drop off).take (Ab P t).sz)=y:=by simpa using he'
       have hcy':AV.clean.cleanL n ((cs.drop off).take (Ab P t).sz)=true:=by rw [← e5] at hyc; exact hyc
       rw [← List.map_drop,if_pos (by simpa using hle),← List.map_take,Pg hcy',e5,hyp]; rfl
      ·cases he'
     | _=>cases he'
   | eptr m k2 i2 off=>
    rw [hx] at he' hcl
    rw [E2] at he' ⊢
    have hmn:m≠n:=by simpa [AV.clean] using hcl
    cases hom:s.o m with
    | none=>rw [hom] at he'; cases he'
    | some ao=>
     rw [hoo m hmn (by rw [hom]; rfl),hom]
     rw [hom] at he'
     cases ao with
     | arr k3 es3=>
      simp only [T4,Option.map_some,AO.purge] at he' ⊢
      split at he'
      ·rename_i hcc
       rw [if_pos hcc]
       rw [he',hyp]
      ·cases he'
     | _=>cases he'
   | p z=>
    rw [hx] at he'
    cases z with
    | ro cs=>
     rw [Jj] at he' ⊢
     rw [he',hyp]
    | _=>cases he'
   | _=>rw [hx] at he'; cases he'
  refine ⟨h1,.pure (y.purge n),_,by rw [hj,hld,hag,e1]; exact hld2,rfl,?_⟩
  have e9:(((s.purge n).setO (r.b+d) (.arr k es)).put (some d) (.own (r.b+i.dst.getD 0) len)).put j.dst (y.purge n)=(((s.put j.dst y).purge n).setO (r.b+d) (.arr k es)).put (some d) (.own (r.b+i.dst.getD 0) len):=by
   cases hjd:j.dst with
   | none=>rfl
   | some dj=>
    have hne:dj≠d:=fun e=>a2 dj hjd (by rw [hd,e])
    simp only [St.put,St.setO,St.purge]
    congr 1
    rw [Cq (Ne.symm hne)]
    congr 1
    funext q
    unfold upd
    by_cases hq:q=dj
    ·subst hq; simp
    ·simp [hq]
  rw [e9]; exact h4
end
def rop:Op→Bool
 | .nilCheck _ | .fieldAddr .. | .load ..=>true
 | op=>sil op
def Aso (v q:List Nat):Op→Bool
 | .call ⟨.value (.func f),_,_⟩=>v.contains f&&q.contains f
 | _=>false
section
variable {P:Program} {r:RB} {N:Nat} {all:List Oper}
theorem Aim {op:Op} (h:rop op=true):qop op=true∧Ct op=false∧Ds op=false∧isM op=false:=by
 cases op <;> first | (simp [rop,sil] at h; done) | exact ⟨rfl,rfl,rfl,rfl⟩
theorem Alu {d:Nat} {op:Op} {ρ:Operand→AV} {os:Nat→Option AO} {e:Eff} (h:rop op=true) (he:eff P d op ρ os=some e):∃ y,e=.pure y:=by
 by_cases hs:sil op=true
 ·exact U6 hs he
 ·cases op <;> simp only [rop] at h <;> first | (exact absurd h hs) | skip
  ·rename_i t x
   have hld:eff P d (.load t x) ρ os=Ec (Ab P t).agg (Ab P t).sz os (ρ x):=rfl
   rw [hld] at he
   unfold Ec at he
   split at he
   ·cases he
   ·split at he
    ·split at he
     ·obtain ⟨y,_,rfl⟩:=Option.map_eq_some_iff.1 he; exact ⟨y,rfl⟩
     ·cases he
    ·split at he
     ·split at he
      ·obtain ⟨y,_,rfl⟩:=Option.map_eq_some_iff.1 he; exact ⟨y,rfl⟩
      ·cases he
     ·cases he
    ·obtain ⟨y,_,rfl⟩:=Option.map_eq_some_iff.1 he; exact ⟨y,rfl⟩
    ·cases he
  ·simp only [eff] at he
   split at he <;> first | (cases he; done) | (cases he; exact ⟨_,rfl⟩)
  ·simp only [eff] at he
   split at he
   ·split at he
    ·split at he
     ·cases he
     ·split at he <;> first | (cases he; done) | (cases he; exact ⟨_,rfl⟩)
    ·cases he
   ·cases he
theorem Atg {o:Oper} {rest:List Oper} {s:St} {K:St→Prop} {f:FuncId} {as:Array Operand} {ts:Array TypeId} (hg:o.guard=none) (hop:o.op=.call ⟨.value (.func f),as,ts⟩) (hv:r.v.contains f=true) (hq:r.q.contains f=true) :
  EL P r N all (o :: rest) s K=EVq P r N (.fn (.func f) [] []) (as.toList.map (ev s.t)) o.dst s (fun s'=>EL P r N all rest s' K):=by
 obtain ⟨dst,op,ty,pos,after,g⟩:=o
 simp only at hg hop
 subst hg hop
 rw [Ar7,Ady,hv,hq]
 rfl
theorem Agi {j i:Oper} {f:FuncId} {as:Array Operand} {ts:Array TypeId} (hj:rop j.op=true) (hjg:j.guard=none) (hig:i.guard=none) (hop:i.op=.call ⟨.value (.func f),as,ts⟩) (hv:r.v.contains f=true) (hq:r.q.contains f=true) (hap:j.apart all.toArray i=true):G5 P r N all j i:=by
 intro l s K hc hE
 obtain ⟨q0,q1,q2,q3⟩:=Aim hj
 obtain ⟨a1,a2,a3⟩:=Oper.apart_spec hap
 rw [Bi hjg q1 q2 q3] at hE
 obtain ⟨h1,e,s1,he,hs1,h2⟩:=hE
 obtain ⟨y,rfl⟩:=Alu hj he
 have hs1':s1=s.put j.dst y:=by cases hs1; rfl
 subst hs1'
 rw [Atg hig hop hv hq] at h2 ⊢
 obtain ⟨h3,bd,res,h4,h5,h6,h7,h8⟩:=h2
 have ho:(s.put j.dst y).o=s.o:=by cases j.dst <;> rfl
 have hargs:as.toList.map (ev (s.put j.dst y).t)=as.toList.map (ev s.t):=List.map_congr_left fun x hx=>Jm (fun d hd hxd=>a1 d hd (Cx (o:=i) (by rw [hop]; simp [Op.operands,Call.operands]; right; simpa using hx) hxd))
 rw [ho,hargs] at h4
 rw [ho] at h5
 refine ⟨h3,bd,res,h4,h5,h6,h7,?_⟩
 show EL P r N all (j :: l) (s.put i.dst res) K
 rw [Bi hjg q1 q2 q3]
 refine ⟨h1,.pure y,_,?_,rfl,?_⟩
 ·rw [← he]
  have ho2:(s.put i.dst res).o=s.o:=by cases i.dst <;> rfl
  rw [ho2]
  exact Ky q0 q1 ⟨fun x hx=>Jm (fun d hd hxd=>a3 d hd (Cx hx hxd)),fun _ _ _ _=>rfl⟩
 ·have e9:(s.put i.dst res).put j.dst y=(s.put j.dst y).put i.dst res:=by
   cases hjd:j.dst with
   | none=>rfl
   | some dj=>cases hid:i.dst with
    | none=>rfl
    | some di=>
     have hne:dj≠di:=fun e=>a2 dj hjd (by rw [hid,e])
     simp only [St.put]
     congr 1
     exact Cq (Ne.symm hne)
  rw [e9]; exact h8
theorem Aeq {D:(Nat→AV)→Prop} {oi:Oper} {post:List Oper} {K:St→Prop} (hK:∀ s':St,K s'→D s'.t):∀ {pre:List Oper} {s:St},s.closed→(∀ p1 oj p2,pre=p1++oj :: p2→Jn P r N all oj∧Lw P r N all D oj oi (p2++post)) →
  EL P r N all (pre++oi :: post) s K→EL P r N all (oi :: (pre++post)) s K
 | [],_,_,_,h=>h
 | oj :: pre,s,hc,hp,h=>by
  have hj:=hp [] oj pre rfl
  exact hj.2 s K hc hK (hj.1 _ _ s K hc (fun s1 hc1 h1=>Aeq hK hc1 (fun p1 o2 p2 e=>hp (oj :: p1) o2 p2 (by rw [e]; rfl)) h1) h)
end
section
variable {P:Program} {r:RB} {N:Nat} {ops:List Oper}
theorem Fr {ops:List Oper}:∀ {pre:List Nat} {p1:List Oper} {oj:Oper} {p2:List Oper},pre.filterMap (ops[·]?)=p1++oj :: p2→∃ l1 j l2,pre=l1++j :: l2∧ops[j]?=some oj∧l2.filterMap (ops[·]?)=p2
 | [],p1,oj,p2,h=>by simp at h
 | k :: pre,p1,oj,p2,h=>by
  rw [List.filterMap_cons] at h
  cases hk:ops[k]? with
  | none=>
   rw [hk] at h
   obtain ⟨l1,j,l2,e1,e2,e3⟩:=Fr h
   exact ⟨k :: l1,j,l2,by rw [e1]; rfl,e2,e3⟩
  | some o=>
   rw [hk] at h
   cases p1 with
   | nil=>
    simp only [List.nil_append,List.cons.injEq] at h
    exact ⟨[],k,pre,rfl,by rw [hk,h.1],h.2⟩
   | cons x p1=>
    simp only [List.cons_append,List.cons.injEq] at h
    obtain ⟨l1,j,l2,e1,e2,e3⟩:=Fr h.2
    exact ⟨k :: l1,j,l2,by rw [e1]; rfl,e2,e3⟩
theorem Afl {D:(Nat→AV)→Prop} {b:Nat→Nat} (hb:Wp ops b)
  (hsw:∀ (i j:Nat) (oi oj:Oper) (rest:List Nat),j < i→ops[i]?=some oi→ops[j]?=some oj→(b i).testBit j=false→(∀ k ∈ rest,j < k∧k≠i∧(k < i→(b i).testBit k=false))→Jn P r N ops oj∧Lw P r N ops D oj oi (rest.filterMap (ops[·]?)))
  {K:St→Prop} (hK:∀ s':St,K s'→D s'.t) {Q:Exit→Act→World→Prop} :
  ∀ (fuel:Nat) (listed:Array Bool) (s:St) (B:Nat) (S:Nat→Prop) (θ:Nat→Loc) (M:Nat→Prop) (w:World) (a:Act),Av N B S θ M w s a→listed.size=ops.length→Tc ops listed→(Di ops.length listed).length≤fuel →
   EL P r N ops ((Di ops.length listed).filterMap (ops[·]?)) s K→(∀ s' a' w',K s'→Fin r N B S θ M w a s' a' w'→Q .normal a' w')→wpAnyIn (Wd r.rd) 0 P .any ops.toArray Q fuel listed a w:=by
 intro fuel
 have hready:∀ {listed:Array Bool} {x:Nat},x ∈ Region.ready .any ops.toArray listed→x ∈ Di ops.length listed:=fun h=>((Fb rfl).1 h).1
 induction fuel with
 | zero=>
  intro listed s B S θ M w a hs hsz hcl hf hE hQ
  have hnil:Di ops.length listed=[]:=List.length_eq_zero_iff.1 (by omega)
  refine ⟨List.eq_nil_iff_forall_not_mem.2 fun x hx=>?_,?_⟩
  ·have:=hready hx
   rw [hnil] at this; cases this
  ·rw [hnil] at hE
   exact hQ s a w hE ⟨Ln.refl hs,rfl⟩
 | succ fuel ih=>
  intro listed s B S θ M w a hs hsz hcl hf hE hQ
  refine ⟨fun hr=>?_,fun i hi=>?_⟩
  ·have hnil:Di ops.length listed=[]:=by
    cases hrem:Di ops.length listed with
    | nil=>rfl
    | cons x l=>
     exfalso
     have hx:x ∈ Di ops.length listed:=by rw [hrem]; simp
     have hsort:(Di ops.length listed).Pairwise (· < ·):=(List.pairwise_lt_range).filter _
     rw [hrem,List.pairwise_cons] at hsort
     obtain ⟨hxn,hxl⟩:=Fp.1 hx
     have:x ∈ Region.ready .any ops.toArray listed:=(Fb rfl).2 ⟨hx,ops[x],by simp [hxn],fun e he hbe=>by
      have hlt:=hb.lt x ops[x] (by simp [hxn]) e he hbe
      cases hl:listed.getD e.on false with
      | true=>rfl
      | false=>
       exfalso
       have hen:e.on < ops.length:=Nat.lt_trans hlt hxn
       have:e.on ∈ Di ops.length listed:=Fp.2 ⟨hen,by
        rw [Array.getD_eq_getD_getElem?] at hl ⊢
        have hsz':e.on < listed.size:=by omega
        simp only [Array.getElem?_eq_getElem hsz',Option.getD_some] at hl ⊢
        exact hl⟩
       rw [hrem] at this
       rcases List.mem_cons.1 this with h | h
       ·omega
       ·have:=hsort.1 _ h; omega⟩
     rw [hr] at this; cases this
   rw [hnil] at hE
   exact hQ s a w hE ⟨Ln.refl hs,rfl⟩
  ·obtain ⟨hrem,o,ho,hafter⟩:=(Fb rfl).1 hi
   obtain ⟨pre,post,he,hpre,hset⟩:=N8 hsz hrem
   have hsort:(pre++i :: post).Pairwise (· < ·):=by rw [← he]; exact (List.pairwise_lt_range).filter _
   have hnl:∀ k ∈ pre++i :: post,listed.getD k true=false:=fun k hk=>(Fp.1 (show k ∈ Di ops.length listed by rw [he]; exact hk)).2
   have hfree:∀ k ∈ pre++post,k < i→(b i).testBit k=false:=fun k hk hki=>by
    cases ht:(b i).testBit k with
    | false=>rfl
    | true=>
     have h1:=Lu hb hcl i o ho hafter hki ht
     have h2:=hnl k (by
      rcases List.mem_append.1 hk with h | h
      ·simp [h]
      ·simp [h])
     rw [Xy h2] at h1; cases h1
   rw [he,List.filterMap_append,List.filterMap_cons] at hE
   simp only [ho] at hE
   have hE':=Aeq hK hs.cl (fun p1 oj p2 hp=>by
    obtain ⟨l1,j,l2,e1,e2,e3⟩:=Fr hp
    have hjp:j ∈ pre:=by rw [e1]; simp
    have:=hsw i j o oj (l2++post) (hpre j hjp) ho e2 (hfree j (by simp [hjp]) (hpre j hjp)) (fun k hk=>by
     rw [e1,List.append_assoc,List.pairwise_append] at hsort
     have h3:=(List.pairwise_cons.1 hsort.2.1).1
     have hk':k ∈ l2++i :: post:=by
      rcases List.mem_append.1 hk with h | h
      ·simp [h]
      ·simp [h]
     have h4:=(List.pairwise_cons.1 hsort.2.1).2
     refine ⟨h3 k hk',fun e=>?_,hfree k (by
      rcases List.mem_append.1 hk with h | h
      ·rw [e1]; simp [h]
      ·simp [h])⟩
     subst e
     have h4:=List.pairwise_append.1 (show (l2++k :: post).Pairwise (· < ·) from h4)
     rcases List.mem_append.1 hk with h | h
     ·have:=h4.2.2 k h k (by simp); omega
     ·have:=(List.pairwise_cons.1 h4.2.1).1 k h; omega)
    rw [List.filterMap_append,e3] at this
    exact this) hE
   refine wpOpIn_mono ?_ (Ad3 ho hs hE')
   rintro a' w' ⟨s1,hE1,hF⟩
   obtain ⟨θ',M',hs',hcomp⟩:=hF.comp
   refine ih _ s1 B S θ' M' w' a' hs' (by simpa using hsz) ?_ ?_ ?_ (fun s' a'' w'' hK hF'=>hQ s' a'' w'' hK (hcomp _ _ _ hF'))
   ·intro k ok hk hl e hek hbe
    have hmono:∀ m,listed.getD m false=true→(listed.setIfInBounds i true).getD m false=true:=fun m hm=>by
     rw [Array.getD_eq_getD_getElem?] at hm ⊢
     rw [Array.getElem?_setIfInBounds]
     split
     ·split <;> simp_all
     ·exact hm
    by_cases hki:k=i
    ·subst hki
     rw [ho] at hk; cases hk
     exact hmono _ (hafter e hek hbe)
    ·have:listed.getD k false=true:=by
      rw [Array.getD_eq_getD_getElem?] at hl ⊢
      rw [Array.getElem?_setIfInBounds,if_neg (Ne.symm hki)] at hl
      exact hl
     exact hmono _ (hcl k ok hk this e hek hbe)
   ·rw [hset]
    rw [he] at hf
    simp only [List.length_append,List.length_cons] at hf ⊢
    omega
   ·rw [hset,List.filterMap_append]
    exact hE1
def R2 (ops:List Oper) (m:Nat) (i j:Nat) (ts:List Nat):Bool:=ops.zipIdx.all fun p=>match p.1.dst with
 | some t=>!ts.contains t||decide (p.2 < j)||(decide (p.2 < i)&&m.testBit p.2)
 | none=>true
def Ahp (ops:List Oper) (j t:Nat):Bool:=ops.zipIdx.all fun p=>p.2 == j||p.1.dst != some t
def Ab8:Op→Option (Nat × Nat)
 | .load t (.tmp x)=>some (t,x)
 | _=>none
def Aed:Op→Option Nat
 | .store _ (.tmp x) _=>some x
 | _=>none
def Abg (P:Program) (v q:List Nat) (ops tl:List Oper) (m:Nat) (i j:Nat) (oi oj:Oper):Option (List Cf):=
 if Tw v ops oj oi=true then some []
 else if oj.apart ops.toArray oi=false then none
 else if (rop oj.op&&oj.guard.isNone&&oi.guard.isNone&&Aso v q oi.op)=true then some []
 else if tl.all (Yc v)=false then none
 else match Aed oi.op,Ab8 oj.op with
  | some x,_=>if (qop oj.op&&!isV v oj.op&&oi.guard.isNone&&oi.dst.isNone&&R2 ops m i j (Cf.sto (oj.looksAt ops.toArray) x).temps)=true then some [.sto (oj.looksAt ops.toArray) x] else none
  | none,some (t,x)=>if (oj.guard.isNone&&(Ab P t).agg == some false&&Hj oi.op&&oi.guard.isNone&&R2 ops m i j [x])=true then some [.app [x]] else match oj.dst with
   | some dj=>if (oj.guard.isNone&&(Ab P t).agg == some true&&Hj oi.op&&oi.guard.isNone&&R2 ops m i j [x]&&Ahp ops j dj)=true then some [.app [x,dj]] else none
   | none=>none
  | _,_=>none
def Ae4 (P:Program) (v q:List Nat) (ops tl:List Oper) (m i:Nat) (oi:Oper):List (Oper × Nat)→Option (List Cf)
 | []=>some []
 | (oj,j) :: r=>if m.testBit j=true then Ae4 P v q ops tl m i oi r else
  match Abg P v q ops tl m i j oi oj,Ae4 P v q ops tl m i oi r with
  | some a,some b=>some (a++b)
  | _,_=>none
def Xj (P:Program) (v q:List Nat) (ops tl:List Oper) (b:Nat→Nat):List (Oper × Nat)→Option (List Cf)
 | []=>some []
 | (oi,i) :: r=>match Ae4 P v q ops tl (b i) i oi (ops.take i).zipIdx,Xj P v q ops tl b r with
  | some a,some c=>some (a++c)
  | _,_=>none
def Azp (P:Program) (v q:List Nat) (ops:List Oper) (_:List Cf) (eqv:Option (List Cf)→Bool):Bool:=Lm ops [] fun l=>Ru ops (fun i=>l.getD i 0)&&eqv (Xj P v q ops ops (fun i=>l.getD i 0) ops.zipIdx)
def U0:List Nat→List Nat→Bool
 | [],[]=>true
 | x :: r,y :: s=>(x == y)&&U0 r s
 | _,_=>false
def Cf.beq':Cf→Cf→Bool
 | .sto a x,.sto b y=>U0 a b&&(x == y)
 | .app a,.app b=>U0 a b
 | _,_=>false
def Aag:List Cf→List Cf→Bool
 | [],[]=>true
 | x :: r,y :: s=>x.beq' y&&Aag r s
 | _,_=>false
theorem Q6:∀ {a b:List Nat},U0 a b=true→a=b
 | [],[],_=>rfl
 | x :: r,y :: s,h=>by
  simp only [U0,Bool.and_eq_true,beq_iff_eq] at h
  rw [h.1,Q6 h.2]
 | [],_ :: _,h=>by cases h
 | _ :: _,[],h=>by cases h
theorem Cf.beq_eq {a b:Cf} (h:a.beq' b=true):a=b:=by
 cases a <;> cases b <;> simp only [Cf.beq',Bool.and_eq_true,beq_iff_eq] at h
 ·rw [Q6 h.1,h.2]
 ·cases h
 ·cases h
 ·rw [Q6 h]
theorem Vi:∀ {a b:List Cf},Aag a b=true→a=b
 | [],[],_=>rfl
 | x :: r,y :: s,h=>by
  simp only [Aag,Bool.and_eq_true] at h
  rw [Cf.beq_eq h.1,Vi h.2]
 | [],_ :: _,h=>by cases h
 | _ :: _,[],h=>by cases h
def Amd (P:Program) (v q:List Nat) (ops:List Oper) (cfs:List Cf):Bool:=Azp P v q ops cfs fun o=>match o with | some l=>Aag l cfs | none=>false
theorem Rx {P:Program} {tl:List Oper} {v q:List Nat} {m i:Nat} {oi:Oper}:∀ {l:List (Oper × Nat)} {c:List Cf},Ae4 P v q ops tl m i oi l=some c→∀ p ∈ l,m.testBit p.2=false→∃ c',Abg P v q ops tl m i p.2 oi p.1=some c'∧∀ x ∈ c',x ∈ c
 | [],_,_,p,hp,_=>by cases hp
 | (oj,j) :: l,c,h,p,hp,ht=>by
  simp only [Ae4] at h
  split at h
  ·rename_i hj
   rcases List.mem_cons.1 hp with e | hp
   ·subst e; rw [ht] at hj; cases hj
   ·exact Rx h p hp ht
  ·split at h
   ·rename_i a b h1 h2
    cases h
    rcases List.mem_cons.1 hp with e | hp
    ·subst e; exact ⟨a,h1,fun x hx=>by simp [hx]⟩
    ·obtain ⟨c',g1,g2⟩:=Rx h2 p hp ht
     exact ⟨c',g1,fun x hx=>by simp [g2 x hx]⟩
   ·cases h
theorem Tz {P:Program} {tl:List Oper} {v q:List Nat} {b:Nat→Nat}:∀ {l:List (Oper × Nat)} {c:List Cf},Xj P v q ops tl b l=some c→∀ p ∈ l,∃ c',Ae4 P v q ops tl (b p.2) p.2 p.1 (ops.take p.2).zipIdx=some c'∧∀ x ∈ c',x ∈ c
 | [],_,_,p,hp=>by cases hp
 | (oi,i) :: l,c,h,p,hp=>by
  simp only [Xj] at h
  split at h
  ·rename_i a d h1 h2
   cases h
   rcases List.mem_cons.1 hp with e | hp
   ·subst e; exact ⟨a,h1,fun x hx=>by simp [hx]⟩
   ·obtain ⟨c',g1,g2⟩:=Tz h2 p hp
    exact ⟨c',g1,fun x hx=>by simp [g2 x hx]⟩
  ·cases h
theorem Mm {m i j:Nat} {ts:List Nat} (h:R2 ops m i j ts=true) {k:Nat} {o:Oper} (hk:ops[k]?=some o) {t:Nat} (ht:t ∈ ts) (hd:o.dst=some t):k < j∨(k < i∧m.testBit k=true):=by
 unfold R2 at h
 rw [List.all_eq_true] at h
 have:=h (o,k) (List.mem_zipIdx_iff_getElem?.2 hk)
 simp only [hd,Bool.or_eq_true,Bool.not_eq_true',Bool.and_eq_true,decide_eq_true_eq] at this
 rcases this with (h1 | h1) | h1
 ·have:ts.contains t=true:=by simpa using ht
  rw [this] at h1; cases h1
 ·exact .inl h1
 ·exact .inr h1
theorem Uu {tl:List Oper} {b:Nat→Nat} {cfs c:List Cf} {i j:Nat} {oi oj:Oper} {rest:List Nat} (hc:Abg P r.v r.q ops tl (b i) i j oi oj=some c) (hsub:∀ x ∈ c,x ∈ cfs) (hji:j < i) (hi:ops[i]?=some oi) (hj:ops[j]?=some oj) (hbit:(b i).testBit j=false)
  (hrest:∀ k ∈ rest,j < k∧k≠i∧(k < i→(b i).testBit k=false)) (htl:∀ k ∈ rest,∀ o,ops[k]?=some o→o ∈ tl):Jn P r N ops oj∧Lw P r N ops (fun f=>∀ x ∈ cfs,x.ok f=true) oj oi (rest.filterMap (ops[·]?)):=by
 unfold Abg at hc
 split at hc
 ·rename_i h
  have:=Ph (P:=P) (r:=r) (N:=N) h
  exact ⟨this.1,Rk this.2⟩
 ·split at hc
  ·cases hc
  ·rename_i hap
   have hap:oj.apart ops.toArray oi=true:=by simpa using hap
   split at hc
   ·rename_i h
    simp only [Bool.and_eq_true,Option.isNone_iff_eq_none] at h
    obtain ⟨⟨⟨h1,h2⟩,h3⟩,h4⟩:=h
    unfold Aso at h4
    split at h4
    ·rename_i f as ts hop
     simp only [Bool.and_eq_true] at h4
     exact ⟨D2 (Aim h1).1 (Rh (Aim h1).2.1),Rk (Agi h1 h2 h3 hop h4.1 h4.2 hap)⟩
    ·cases h4
   ·split at hc
    ·cases hc
    ·rename_i htm
     have htm:∀ o ∈ tl,Yc r.v o=true:=List.all_eq_true.1 (by simpa using htm)
     have htame:∀ o ∈ rest.filterMap (ops[·]?),Yc r.v o=true:=fun o ho=>by
      obtain ⟨k,hkr,hk⟩:=List.mem_filterMap.1 ho
      exact htm o (htl k hkr o hk)
     have free:∀ {ts:List Nat},R2 ops (b i) i j ts=true→∀ t ∈ ts,oj.dst≠some t∧oi.dst≠some t∧∀ o ∈ rest.filterMap (ops[·]?),o.dst≠some t:=fun hfr t ht=>by
      refine ⟨fun e=>?_,fun e=>?_,fun o ho e=>?_⟩
      ·rcases Mm hfr hj ht e with h | h
       ·omega
       ·rw [hbit] at h; cases h.2
      ·rcases Mm hfr hi ht e with h | h <;> omega
      ·obtain ⟨k,hk,hko⟩:=List.mem_filterMap.1 ho
       obtain ⟨g1,g2,g3⟩:=hrest k hk
       rcases Mm hfr hko ht e with h | h
       ·omega
       ·rw [g3 h.1] at h; cases h.2
     split at hc
     ·rename_i x y hst
      split at hc
      ·rename_i h
       cases hc
       simp only [Bool.and_eq_true,Bool.not_eq_true',Option.isNone_iff_eq_none] at h
       obtain ⟨⟨⟨⟨h1,h2⟩,h3⟩,h4⟩,h5⟩:=h
       unfold Aed at hst
       split at hst
       ·rename_i t x' v' hop
        cases hst
        refine ⟨D2 h1 h2,Abw h1 h2 hop h3 h4 hap htame (fun t ht=>?_) (fun f hf=>hf _ (hsub _ (by simp)))⟩
        exact ⟨(free h5 t ht).1,(free h5 t ht).2.2⟩
       ·cases hst
      ·cases hc
     ·rename_i t x hst hld
      split at hc
      ·rename_i h
       cases hc
       simp only [Bool.and_eq_true,Option.isNone_iff_eq_none,beq_iff_eq] at h
       obtain ⟨⟨⟨⟨h1,h2⟩,h3⟩,h4⟩,h5⟩:=h
       unfold Ab8 at hld
       split at hld
       ·rename_i t' x' hop
        cases hld
        refine ⟨D2 (by rw [hop]; rfl) (by rw [hop]; rfl),X5 hop h1 h2 h3 h4 hap htame (fun t ht=>free h5 t ht) (fun f hf=>hf _ (hsub _ (by simp)))⟩
       ·cases hld
      ·split at hc
       ·rename_i dj hdj
        split at hc
        ·rename_i h
         cases hc
         simp only [Bool.and_eq_true,Option.isNone_iff_eq_none,beq_iff_eq] at h
         obtain ⟨⟨⟨⟨⟨h1,h2⟩,h3⟩,h4⟩,h5⟩,h6⟩:=h
         have sole:∀ {k:Nat} {o:Oper},ops[k]?=some o→k≠j→o.dst≠some dj:=fun {k o} hk hkj e=>by
          unfold Ahp at h6
          rw [List.all_eq_true] at h6
          have h7:=h6 (o,k) (List.mem_zipIdx_iff_getElem?.2 hk)
          simp [hkj,e] at h7
         unfold Ab8 at hld
         split at hld
         ·rename_i t' x' hop
          cases hld
          refine ⟨D2 (by rw [hop]; rfl) (by rw [hop]; rfl),Ye hop h1 h2 hdj ⟨sole hi (by omega),fun o ho=>?_⟩ h3 h4 hap htame (fun t ht=>free h5 t ht) (fun f hf=>hf _ (hsub _ (by simp)))⟩
          obtain ⟨k,hkr,hk⟩:=List.mem_filterMap.1 ho
          exact sole hk (by have:=(hrest k hkr).1; omega)
         ·cases hld
        ·cases hc
       ·cases hc
     ·cases hc
theorem Ka {id:Nat} {st:St} {Q:AEx→St→Prop} (cfs:List Cf) (hm:P.follows .mixedOrders=true) (hchk:Amd P r.v r.q ops cfs=true) (h:EL P r N ops ops st (fun s=>(cfs.all fun c=>c.ok s.t)=true∧Q .normal s)):AWP P r N (.region id ops.toArray true) st Q:=by
 obtain ⟨l,hl⟩:=Ki hchk
 rw [Bool.and_eq_true] at hl
 obtain ⟨hl1,hl2⟩:=hl
 clear hchk
 have hrows:Xj P r.v r.q ops ops (fun i=>l.getD i 0) ops.zipIdx=some cfs:=by
  revert hl2
  cases Xj P r.v r.q ops ops (fun i=>l.getD i 0) ops.zipIdx with
  | none=>intro h; cases h
  | some c=>intro h; rw [Vi h]
 generalize hbb:(fun i=>l.getD i 0)=bb at *
 clear hl2
 intro B S θ M w a hs
 refine wpIn_region_any hm ?_
 have hrem:Di ops.length (Array.replicate ops.length false)=List.range ops.length:=Pu _
 refine Afl (D:=fun f=>∀ x ∈ cfs,x.ok f=true) (K:=fun s=>(cfs.all fun c=>c.ok s.t)=true∧Q .normal s) (Jr hl1) (fun i j oi oj rest hji hi hj hbit hrest=>?_) (fun s' hs'=>List.all_eq_true.1 hs'.1) ops.toArray.size (Array.replicate ops.toArray.size false) st B S θ M _ a (hs.drawn _) (by simp) (fun k o hk hL=>?_) ?_ ?_ (fun s' a' w' hk hF=>⟨.normal,s',rfl,hk.2,?_⟩)
 ·obtain ⟨c1,g1,g2⟩:=Tz hrows (oi,i) (List.mem_zipIdx_iff_getElem?.2 hi)
  obtain ⟨c2,g3,g4⟩:=Rx g1 (oj,j) (List.mem_zipIdx_iff_getElem?.2 (by rw [List.getElem?_take,if_pos hji]; exact hj)) hbit
  exact Uu (b:=bb) g3 (fun x hx=>g2 x (g4 x hx)) hji hi hj hbit hrest (fun k _ o ho=>List.mem_of_getElem? ho)
 ·simp only [Array.getD_eq_getD_getElem?,Array.getElem?_replicate] at hL
  split at hL <;> simp at hL
 ·simp only [List.size_toArray]; rw [hrem]; simp
 ·simp only [List.size_toArray]; rw [hrem,Fq]; exact h
 ·obtain ⟨⟨θ',M',h1,h2,h3,h4⟩,h5⟩:=hF
  exact ⟨⟨θ',M',h1,⟨h2.size,h2.same,h2.os,h2.tape,h2.output⟩,h3,h4⟩,h5⟩
end
end AM
end
/- The abstract machine, part 37: states whose objects are not all written out. -/
section
namespace AM
open Go
theorem Ad {α:Type} {f:Nat→α} {d:Nat} {x:α} {i:Nat} (h:i≠d):upd f d x i=f i:=if_neg h
theorem Ak {α:Type} {f:Nat→α} {d:Nat} {x:α}:upd f d x d=x:=if_pos rfl
theorem C1 {α:Type} {f:Nat→α} {d:Nat} {x y:α}:upd (upd f d x) d y=upd f d y:=by
 funext i; unfold upd; by_cases h:i=d <;> simp [h]
def Ji (os:Nat→Option AO):List (Nat × AV)→Prop
 | []=>True
 | (_,x) :: l=>x.lives os∧Ji os l
theorem Pq {os:Nat→Option AO}:Ji os []=True:=rfl
theorem G0 {os:Nat→Option AO} {j:Nat} {x:AV} {l:List (Nat × AV)}:Ji os ((j,x) :: l)=(x.lives os∧Ji os l):=rfl
theorem Da {os:Nat→Option AO} {x:PV}:(AV.p x).lives os=True:=eq_true (AV.lives_p os x)
theorem U4 {os:Nat→Option AO}:AV.undef.lives os=True:=eq_true (AV.lives_undef os)
theorem Hz {os:Nat→Option AO} {x:AV} {n:Nat} (h:∀ m,x.clean m=(n != m)):x.lives os=((os n).isSome=true):=by
 apply propext
 constructor
 ·intro hx; exact hx n (by rw [h]; simp)
 ·intro hx m hm; rw [h] at hm; simp only [bne_eq_false_iff_eq] at hm; subst hm; exact hx
theorem Bz {os:Nat→Option AO} {n off:Nat}:(AV.ptr n off).lives os=((os n).isSome=true):=Hz fun _=>rfl
theorem Vt {os:Nat→Option AO} {n k i off:Nat}:(AV.eptr n k i off).lives os=((os n).isSome=true):=Hz fun _=>rfl
theorem Yp {os:Nat→Option AO} {n len:Nat}:(AV.own n len).lives os=((os n).isSome=true):=Hz fun _=>rfl
theorem Y2 {os:Nat→Option AO} {n off k len:Nat}:(AV.csl n off k len).lives os=((os n).isSome=true):=Hz fun _=>rfl
theorem Ll {os:Nat→Option AO} {n:Nat}:(AV.yld n).lives os=((os n).isSome=true):=Hz fun _=>rfl
theorem R6 {os:Nat→Option AO} {n:Nat}:(AV.mp n).lives os=((os n).isSome=true):=Hz fun _=>rfl
def He (os:Nat→Option AO):List AV→Prop
 | []=>True
 | x :: l=>x.lives os∧He os l
theorem A8 {os:Nat→Option AO}:He os []=True:=rfl
theorem Ax {os:Nat→Option AO} {x:AV} {l:List AV}:He os (x :: l)=(x.lives os∧He os l):=rfl
theorem E5 {os:Nat→Option AO} {l:List AV}:He os l↔∀ (i:Nat) (x:AV),l[i]?=some x→x.lives os:=by
 induction l with
 | nil=>simp [He]
 | cons y r ih=>
  rw [Ax,ih]
  constructor
  ·rintro ⟨h1,h2⟩ i x hx
   cases i with
   | zero=>simp at hx; exact hx ▸ h1
   | succ i=>exact h2 i x (by simpa using hx)
  ·intro h
   exact ⟨h 0 y (by simp),fun i x hx=>h (i+1) x (by simpa using hx)⟩
theorem Qc {os:Nat→Option AO} {cs:List AV}:(AV.agg cs).lives os=He os cs:=propext (AV.lives_agg.trans E5.symm)
theorem Lk {os:Nat→Option AO} {cs:List AV}:(AV.tup cs).lives os=He os cs:=propext (AV.lives_tup.trans E5.symm)
theorem Cl {os:Nat→Option AO} {f:Fn} {fs cs:List AV}:(AV.fn f fs cs).lives os=(He os fs∧He os cs):=by
 apply propext
 constructor
 ·intro h; exact ⟨E5.2 (F6 h).1,E5.2 (F6 h).2⟩
 ·rintro ⟨h1,h2⟩ n hn
  simp only [AV.clean,Bool.and_eq_false_iff] at hn
  rcases hn with hn | hn
  ·exact AV.lives_cells.1 (E5.1 h1) n hn
  ·exact AV.lives_cells.1 (E5.1 h2) n hn
theorem Pn {os:Nat→Option AO} {l:List (Nat × AV)} (h:Ji os l) (i:Nat):(T l i).lives os:=by
 induction l with
 | nil=>exact AV.lives_undef _
 | cons p r ih=>
  obtain ⟨j,x⟩:=p
  rw [G0] at h
  rw [X0]
  split
  ·exact h.1
  ·exact ih h.2
theorem Lr {t:Nat→AV} {l:List (Nat × AV)} (h:leT t l) (i:Nat):T l i=.undef∨T l i=t i:=by
 induction l with
 | nil=>exact .inl rfl
 | cons p r ih=>
  obtain ⟨j,x⟩:=p
  rw [Qd] at h
  rw [X0]
  split
  ·rename_i e; subst e; exact .inr h.1.symm
  ·exact ih h.2
theorem Bc {os:Nat→Option AO} {n:Nat} {o:AO} (h:(Hp os).closed) (ho:o.lives (upd os n (some o))):(Hp (upd os n (some o))).closed:=by
 have hm:∀ m,(os m).isSome=true→(upd os n (some o) m).isSome=true:=fun m hm=>by
  unfold upd; split
  ·rfl
  ·exact hm
 refine ⟨fun _=>AV.lives_undef _,fun m o' ho'=>?_⟩
 have ho':upd os n (some o) m=some o':=ho'
 unfold upd at ho'
 split at ho'
 ·cases ho'; exact ho
 ·exact AO.lives_mono hm (h.2 m o' ho')
theorem Bp {os:Nat→Option AO} {cs:List AV}:(AO.cells cs).lives os=He os cs:=propext (AO.lives_cells.trans E5.symm)
theorem Gc {os:Nat→Option AO} {k:Nat} {es:List (List PV)}:(AO.arr k es).lives os=True:=eq_true (AO.lives_arr os k es)
theorem Yj {os:Nat→Option AO} {X:Obj→Prop}:(AO.obj X).lives os=True:=eq_true (AO.lives_obj os X)
theorem N3 {os:Nat→Option AO} {k:D3} {tm:List (Nat × AV)}:(AO.loop k tm).lives os=Ji os tm:=by
 apply propext
 rw [AO.lives_loop]
 induction tm with
 | nil=>simp [Ji]
 | cons p r ih=>
  obtain ⟨j,x⟩:=p
  rw [G0,← ih]
  constructor
  ·intro h; exact ⟨h 0 (j,x) rfl,fun i q hq=>h (i+1) q (by simpa using hq)⟩
  ·rintro ⟨h1,h2⟩ i q hq
   cases i with
   | zero=>simp at hq; subst hq; exact h1
   | succ i=>exact h2 i q (by simpa using hq)
def Sub (os f:Nat→Option AO):Prop:=∀ n,os n=none∨os n=f n
theorem Sub.refl (os:Nat→Option AO):Sub os os:=fun _=>.inr rfl
theorem Sub.skip {os f:Nat→Option AO} {d:Nat} {x:Option AO} (hd:os d=none) (h:Sub os f):Sub os (upd f d x):=fun n=>by
 by_cases e:n=d
 ·subst e; exact .inl hd
 ·rw [Ao e]; exact h n
theorem Sub.both {os f:Nat→Option AO} {d:Nat} {x:Option AO} (h:Sub os f):Sub (upd os d x) (upd f d x):=fun n=>by
 by_cases e:n=d
 ·subst e; exact .inr (by rw [Dm,Dm])
 ·rw [Ao e,Ao e]; exact h n
theorem Ha {l:List (Nat × AO)} {b:Nat} (h:l.all fun x=>decide (x.1 < b)):∀ n,b≤n→O l n=none:=by
 intro n hn
 induction l with
 | nil=>rfl
 | cons x l ih=>
  simp only [List.all_cons,Bool.and_eq_true,decide_eq_true_eq] at h
  rw [Ab1,if_neg (by omega)]
  exact ih h.2
theorem Dz {l1:List (Nat × AV)} {os:Nat→Option AO} {s:St} (h1:leT s.t l1) (h2:Sub os s.o) (h3:Ji os l1) (h4:(Hp os).closed):St.le ⟨T l1,os⟩ s:=
 ⟨fun i=>Lr h1 i,h2,⟨fun i=>Pn h3 i,h4.2⟩⟩
section
variable {P:Program} {r:RB} {N:Nat} {dst:Option Nat} {K:St→Prop}
theorem Ab0 {bd:Nat} {fv:AV} {args:List AV} {t:Nat→AV} {os:Nat→Option AO} {R:AV→(Nat→Option AO)→Prop} (l':List (Nat × AV)) (hd:Cm N dst=true) (hc:Bm P bd fv args os R) (hbd:∀ n,bd≤n→os n=none) (hb:r.b≤bd)
  (h:∀ res os',R res os'→(Hp os').closed→res.lives os'→leT t l'∧Ji os' l'∧K (St.put ⟨T l',os'⟩ dst res)):Ape P r N fv args dst ⟨t,os⟩ K:=
 ⟨hd,_,bd,R,hc,hbd,hb,fun _ h=>h.elim,fun res os' h1 h2 h3=>by
  obtain ⟨h4,h5,hK⟩:=h res os' h1 h2 h3
  exact ⟨T l',fun i=>(Lr h4 i).imp id (fun e=>⟨e,fun _ hm=>hm.elim⟩),fun i=>Pn h5 i,hK⟩⟩
theorem Be {bd:Nat} {fv:AV} {args:List AV} {t:Nat→AV} {os:Nat→Option AO} {R:AV→(Nat→Option AO)→Prop} (l':List (Nat × AV)) (hd:Cm N dst=true) (hc:Bm P bd fv args os R) (hbd:∀ n,bd≤n→os n=none) (hb:r.b≤bd)
  (h:∀ res os',R res os'→(Hp os').closed→res.lives os'→leT t l'∧Ji os' l'∧K (St.put ⟨T l',os'⟩ dst res)):EVk P r N fv args dst ⟨t,os⟩ K:=.inl (Ab0 l' hd hc hbd hb h)
theorem Nh {bd:Nat} {fv:AV} {args:List AV} {s:St} {res:AV} (hd:Cm N dst=true) (hc:Bm P bd fv args s.o (fun x os'=>x=res∧os'=s.o)) (hbd:∀ n,bd≤n→s.o n=none) (hb:r.b≤bd) (hp:res.isP=true) (h:K (s.put dst res)):EVk P r N fv args dst s K:=.inr (.inr ⟨hd,bd,res,hc,hbd,hb,hp,h⟩)
def Acw (mv:Nat→Prop):List (Nat × AV)→Prop
 | []=>True
 | (_,x) :: l=>x.stays mv∧Acw mv l
theorem Ud {mv:Nat→Prop} {l:List (Nat × AV)} (h:Acw mv l) (i:Nat):(T l i).stays mv:=by
 induction l with
 | nil=>exact fun _ _=>rfl
 | cons p r ih=>
  obtain ⟨j,x⟩:=p
  rw [X0]
  split
  ·exact h.1
  ·exact ih h.2
theorem Qy {mv:Nat→Prop} {x:PV}:(AV.p x).stays mv:=fun _ _=>rfl
theorem Df {mv:Nat→Prop} {n off:Nat} (h:¬ mv n):(AV.ptr n off).stays mv:=fun m hm=>by
 simp only [AV.clean,bne_iff_ne]; intro e; exact h (e ▸ hm)
theorem Nw {mv:Nat→Prop} {bd:Nat} {fv:AV} {args:List AV} {t:Nat→AV} {os:Nat→Option AO} {R:AV→(Nat→Option AO)→Prop} (l':List (Nat × AV)) (hd:Cm N dst=true) (hc:Eo P mv bd fv args os R) (hmv:∀ n,mv n→r.mv n∨r.b≤n) (hst:Acw mv l') (hbd:∀ n,bd≤n→os n=none) (hb:r.b≤bd)
  (h:∀ res os',R res os'→(Hp os').closed→res.lives os'→leT t l'∧Ji os' l'∧K (St.put ⟨T l',os'⟩ dst res)):EVk P r N fv args dst ⟨t,os⟩ K:=
 .inl ⟨hd,mv,bd,R,hc,hbd,hb,hmv,fun res os' h1 h2 h3=>by
  obtain ⟨h4,h5,hK⟩:=h res os' h1 h2 h3
  refine ⟨T l',fun i=>?_,fun i=>Pn h5 i,hK⟩
  rcases Lr h4 i with e | e
  ·exact .inl e
  ·exact .inr ⟨e,by have:=Ud hst i; rw [e] at this; exact this⟩⟩
theorem Gz {rs:List ResultVar} {R:AV→(Nat→Option AO)→Prop} {s:St}:Agd P rs R .normal s=Zf P rs R s:=rfl
theorem P6 {rs:List ResultVar} {R:AV→(Nat→Option AO)→Prop} {s:St}:Agd P rs R .ret s=Zf P rs R s:=rfl
theorem Az {rs:List ResultVar} {R:AV→(Nat→Option AO)→Prop} {s:St} {res:AV} (os':Nat→Option AO) (h1:(Gr P s rs).map Fz=some res) (h2:Sub os' s.o) (h3:(Hp os').closed) (h4:res.lives os') (h5:R res os'):Zf P rs R s:=⟨res,os',h1,h2,h3,h4,h5⟩
theorem Aft {i:Nat} {s:St}:(Gr P s [.tmp i]).map Fz=some (s.t i):=rfl
theorem Af7 {s:St}:(Gr P s []).map Fz=some (.tup []):=rfl
end
section
variable {P:Program} {r:RB} {N:Nat} {s:St} {K:St→Prop} {dst:Option Nat} {ty:TypeId} {pos:String} {after:Array Edge} {g:Option (Nat × Bool)}
theorem G1 {t:TypeId} {x i:Operand}:EO P r N ⟨dst,.index t x i,ty,pos,after,g⟩ s K=EOp r.b N dst s K (R0 (fun e=>(Ab P e).sz) (fun e=>(Ab P e).agg) (ev s.t x) (Ab P t).k (ev s.t i)):=by
 refine C9 rfl rfl ?_
 simp only [eff]
 cases (Ab P t).k with
 | arr len e=>
  cases hx:ev s.t x with
  | agg cs=>
   cases hi:ev s.t i with
   | p q=>cases q with
    | val v=>cases v with
     | int k n=>simp only [R0]; cases (Ab P e).agg <;> rfl
     | _=>rfl
    | _=>rfl
   | _=>rfl
  | _=>cases hi:ev s.t i with
   | p q=>cases q with
    | val v=>cases v with
     | int k n=>simp only [R0]
     | _=>rfl
    | _=>rfl
   | _=>rfl
 | _=>cases ev s.t i <;> first | rfl | (rename_i q; cases q <;> first | rfl | (rename_i v; cases v <;> rfl))
theorem Ak5 {os:Nat→Option AO} {f:Fn}:Fe os (.fn f [] [])=some (.fn f [] []):=rfl
def Ao4 (esz:Nat→Nat) (ea:Nat→Option Bool) (len e:Nat):AV→Option Int→Option Int→Option Eff
 | .ptr n off,some l,some h=>if 0≤l∧l≤h∧h≤len∧(ea e).isSome∧l < len then some (.pure (.csl n (off+l.toNat * esz e) (esz e) (h - l).toNat)) else none
 | _,_,_=>none
theorem Agq {t:TypeId} {x:Operand} {lo hi:Option Operand} {len e:Nat} (hk:(Ab P t).k=.arr len e):EO P r N ⟨dst,.slice t x lo hi none,ty,pos,after,g⟩ s K=EOp r.b N dst s K (Ao4 (fun e=>(Ab P e).sz) (fun e=>(Ab P e).agg) len e (ev s.t x) (Bv (ev s.t) 0 lo) (Bv (ev s.t) len hi)):=by
 refine C9 rfl rfl ?_
 simp only [eff,hk]
 cases ev s.t x <;> cases Bv (ev s.t) 0 lo <;> cases Bv (ev s.t) len hi <;> rfl
theorem Acb {ρ:Operand→AV} {d:Nat}:Bv ρ d none=some (d:Int):=rfl
def Awk:AV→Option Int
 | .p (.val (.int .i64 n))=>some n
 | _=>none
theorem Ab6 {ρ:Operand→AV} {d:Nat} {x:Operand}:Bv ρ d (some x)=Awk (ρ x):=rfl
theorem Ai1 {n:Int}:Awk (.p (.val (.int .i64 n)))=some n:=rfl
theorem Aki {esz:Nat→Nat} {ea:Nat→Option Bool} {len e n off:Nat} {l h:Int}:Ao4 esz ea len e (.ptr n off) (some l) (some h)=if 0≤l∧l≤h∧h≤len∧(ea e).isSome∧l < len then some (.pure (.csl n (off+l.toNat * esz e) (esz e) (h - l).toNat)) else none:=rfl
def fMk (k by8:Nat) (z:List PV) (d:Nat):AV→AV→Option Eff
 | .p (.val (.int .i64 n)),.p (.val (.int .i64 m))=>if n=m∧0≤n∧n≤4611686018427387904∧by8 * n≤281474976710656 then some (.new (.arr k (List.replicate n.toNat z)) (.own d n.toNat)) else none
 | _,_=>none
theorem An8 {t e:TypeId} {l c:Operand} {d k by8:Nat} {z:List Value} (hk:(Ab P t).k=.sl e) (h1:(Ab P e).sz=k) (h2:(Ab P e).bytes=by8) (h3:(Ab P e).zero=z) (h4:z.all Value.oneCell'=true) (h5:k=z.length) (h6:0 < k) (h7:(Ab P e).agg.isSome=true) :
  EO P r N ⟨some d,.makeSlice t l c,ty,pos,after,g⟩ s K=EOp r.b N (some d) s K (fMk k by8 (z.map .val) (r.b+d) (ev s.t l) (ev s.t c)):=by
 refine C9 rfl rfl ?_
 have e5:(k=z.length)=True:=eq_true h5
 have e6:(0 < k)=True:=eq_true h6
 simp only [eff,hk]
 cases ev s.t l with
 | p q=>cases q with
  | val v=>cases v with
   | int kd n=>cases kd <;> (cases ev s.t c with
    | p q'=>cases q' with
     | val v'=>cases v' with
      | int kd' m=>cases kd' <;> simp only [fMk,h1,h2,h3,h4,h7,e5,e6,and_true,Option.getD_some]
      | _=>rfl
     | _=>rfl
    | _=>rfl)
   | _=>rfl
  | _=>rfl
 | _=>rfl
theorem Xv {k by8 d:Nat} {z:List PV} {n m:Int}:fMk k by8 z d (.p (.val (.int .i64 n))) (.p (.val (.int .i64 m)))=if n=m∧0≤n∧n≤4611686018427387904∧by8 * n≤281474976710656 then some (.new (.arr k (List.replicate n.toNat z)) (.own d n.toNat)) else none:=rfl
end
def Fs:Code→Option (Code × Code)
 | .seq a b=>match Fs a with | some x=>some x | none=>Fs b
 | .block _ c=>Fs c
 | .loop c=>Fs c
 | .rangeFunc _ _ a b=>some (a,b)
 | _=>none
theorem Ci {nl:Nat} {k:D3} {tm:List (Nat × AV)} {R:AV→(Nat→Option AO)→Prop} {s:St}:Rl nl k tm R .normal s=Ml nl k tm R none s:=rfl
theorem Fv {nl:Nat} {k:D3} {tm:List (Nat × AV)} {R:AV→(Nat→Option AO)→Prop} {s:St}:Rl nl k tm R .ret s=Ml nl k tm R (some .ret) s:=rfl
theorem F9 {nl:Nat} {k:D3} {tm:List (Nat × AV)} {R:AV→(Nat→Option AO)→Prop} {jump:Option Code} {s:St} (os':Nat→Option AO) (h1:s.o nl=some (.loop { k with state:=.busy } tm)) (h2:Sub os' (upd s.o nl (some (.loop { k with state:=if jump.isNone then .ready else .done,pending:=jump } tm)))) (h3:(Hp os').closed) (h4:R (bl jump.isNone) os'):Ml nl k tm R jump s:=⟨h1,os',h2,h3,h4⟩
theorem Ho {θ:Nat→Loc} {M:Nat→Prop} {w:World} {v:Value} (h:Ar θ M w (.p (.val (.slice none 0 0))) v):v=.slice none 0 0:=by
 cases h with
 | p _ _ h=>cases h with
  | val v _=>rfl
theorem Ag1 {P:Program} {r:RB} {N:Nat} {c:Code} {s:St} {Q:AEx→St→Prop} (n k i:Nat) (hn4:r.b≤n) (hi:s.t i=.p (.val (.slice none 0 0))) (hfree:s.o n=none)
  (h:AWP P r N c ⟨upd s.t i (.own n 0),upd s.o n (some (.arr k []))⟩ Q):AWP P r N c s Q:=by
 intro B S θ M w a hs
 have hS:=hs.new (d:=n) hfree (w':=w) (l:=⟨0,0,true⟩) (o:=.arr k []) (Nat.le_refl _) (fun _ _=>rfl) (fun e=>by cases e)
  ⟨fun i e he=>by simp at he,.inl ⟨rfl,rfl⟩⟩ (AO.lives_arr _ _ _)
 have hv:a.tmps.getD i undef=.slice none 0 0:=Ho (hi ▸ hs.tm i)
 have hS2:Av N B S (Fj θ n ⟨0,0,true⟩) (fun b=>M b∨((true:Bool)=false∧b=0)) w ⟨upd s.t i (.own n 0),upd s.o n (some (.arr k []))⟩ a:=by
  refine ⟨hS.size,fun j=>?_,hS.ob,hS.lv,hS.inj,hS.base,hS.mlt,⟨fun j=>?_,hS.cl.2⟩⟩
  ·show Ar _ _ _ (upd s.t i (.own n 0) j) _
   by_cases e:j=i
   ·subst e
    rw [Dm,hv]
    exact .ownNil n (by simp)
   ·rw [Ao e]; exact hS.tm j
  ·show (upd s.t i (.own n 0) j).lives _
   by_cases e:j=i
   ·subst e
    rw [Dm]
    intro m hm
    simp only [AV.clean,bne_eq_false_iff_eq] at hm
    subst hm
    show (upd s.o n (some (.arr k [])) n).isSome=true
    simp
   ·rw [Ao e]; exact hS.cl.1 j
 have:=h B S _ _ w a hS2
 refine wpIn_mono this ?_
 rintro e a' w' ⟨ae,st',h1,h2,⟨⟨θ',M',h3,h4,h5,h6⟩,h7⟩⟩
 exact ⟨ae,st',h1,h2,⟨⟨θ',M',h3,h4,fun m hm hv=>(h5 m hm hv).trans (Bb (by omega)),fun b hb hm=>h6 b hb (.inl hm)⟩,h7⟩⟩
theorem Acz {P:Program} {r:RB} {N:Nat} {c:Code} {l:List (Nat × AV)} {m:List (Nat × AO)} {Q:AEx→St→Prop} (n k i:Nat) (hn4:r.b≤n) (hi:T l i=.p (.val (.slice none 0 0))) (hfree:O m n=none)
  (h:AWP P r N c ⟨T ((i,.own n 0) :: l),O ((n,.arr k []) :: m)⟩ Q):AWP P r N c ⟨T l,O m⟩ Q:=Ag1 n k i hn4 hi hfree h
end AM
namespace AM
open Go
theorem Vf {P:Program} {r:RB} {N:Nat} {c:Code} {s:St} {Q:AEx→St→Prop} (n k m off:Nat) {cs:List AV} (hn4:r.b≤n) (hm:s.o m=some (.cells cs)) (hi:cs[off]?=some (.p (.val (.slice none 0 0)))) (hfree:s.o n=none)
  (h:AWP P r N c ⟨s.t,upd (upd s.o n (some (.arr k []))) m (some (.cells (cs.set off (.own n 0))))⟩ Q):AWP P r N c s Q:=by
 intro B S θ M w a hs
 have hmn:m≠n:=fun e=>by rw [e,hfree] at hm; cases hm
 have hS:=hs.new (d:=n) hfree (w':=w) (l:=⟨0,0,true⟩) (o:=.arr k []) (Nat.le_refl _) (fun _ _=>rfl) (fun e=>by cases e)
  ⟨fun i e he=>by simp at he,.inl ⟨rfl,rfl⟩⟩ (AO.lives_arr _ _ _)
 have hm1:(s.setO n (.arr k [])).o m=some (.cells cs):=by show upd s.o n _ m=_; rw [Ao hmn]; exact hm
 have hsome:∀ j,(upd (upd s.o n (some (.arr k []))) m (some (.cells (cs.set off (.own n 0)))) j).isSome=((s.setO n (.arr k [])).o j).isSome:=fun j=>by
  by_cases e:j=m
  ·subst e; rw [Dm,hm1]; rfl
  ·rw [Ao e]; rfl
 have hS2:Av N B S (Fj θ n ⟨0,0,true⟩) (fun b=>M b∨((true:Bool)=false∧b=0)) w ⟨s.t,upd (upd s.o n (some (.arr k []))) m (some (.cells (cs.set off (.own n 0))))⟩ a:=by
  refine ⟨hS.size,hS.tm,fun j o hj=>?_,fun j o hj hnil=>?_,fun i j hi hj=>hS.inj i j (by rw [← hsome]; exact hi) (by rw [← hsome]; exact hj),hS.base,hS.mlt,⟨fun j=>AV.lives_mono (fun i hi=>(hsome i).trans hi) (hS.cl.1 j),fun j o hj=>?_⟩⟩
  ·have hj:upd (upd s.o n (some (.arr k []))) m (some (.cells (cs.set off (.own n 0)))) j=some o:=hj
   by_cases e:j=m
   ·subst e
    rw [Dm] at hj
    cases hj
    obtain ⟨h1,cur,e,h2,h3,h4,h5⟩:=hS.ob j _ hm1
    refine ⟨h1,cur,e,h2,by simpa using h3,fun i hi=>h4 i (by simpa using hi),fun i x hx=>?_⟩
    rw [List.getElem?_set] at hx
    split at hx
    ·rename_i hoff
     split at hx
     ·cases hx
      have hv:=Ho (h5 off _ hi)
      rw [← hoff,hv]
      exact .ownNil n (by simp)
     ·cases hx
    ·exact h5 i x hx
   ·rw [Ao e] at hj
    exact hS.ob j o hj
  ·have hj:upd (upd s.o n (some (.arr k []))) m (some (.cells (cs.set off (.own n 0)))) j=some o:=hj
   by_cases e:j=m
   ·subst e; exact hS.lv j _ hm1 hnil
   ·rw [Ao e] at hj; exact hS.lv j o hj hnil
  ·have hj:upd (upd s.o n (some (.arr k []))) m (some (.cells (cs.set off (.own n 0)))) j=some o:=hj
   have hmono:∀ i,((s.setO n (.arr k [])).o i).isSome=true→(upd (upd s.o n (some (.arr k []))) m (some (.cells (cs.set off (.own n 0)))) i).isSome=true:=fun i hi=>(hsome i).trans hi
   by_cases e:j=m
   ·subst e
    rw [Dm] at hj
    cases hj
    rw [AO.lives_cells]
    intro i x hx
    rw [List.getElem?_set] at hx
    split at hx
    ·split at hx
     ·cases hx
      intro p hp
      simp only [AV.clean,bne_eq_false_iff_eq] at hp
      subst hp
      refine hmono n ?_
      show (upd s.o n _ n).isSome=true
      simp
     ·cases hx
    ·exact AV.lives_mono hmono (AO.lives_cells.1 (hS.cl.2 j _ hm1) i x hx)
   ·rw [Ao e] at hj
    exact AO.lives_mono hmono (hS.cl.2 j o hj)
 have:=h B S _ _ w a hS2
 refine wpIn_mono this ?_
 rintro e a' w' ⟨ae,st',h1,h2,⟨⟨θ',M',h3,h4,h5,h6⟩,h7⟩⟩
 exact ⟨ae,st',h1,h2,⟨⟨θ',M',h3,h4,fun m hm hv=>(h5 m hm hv).trans (Bb (by omega)),fun b hb hm=>h6 b hb (.inl hm)⟩,h7⟩⟩
theorem Jv {P:Program} {r:RB} {N:Nat} {c:Code} {l:List (Nat × AV)} {mm:List (Nat × AO)} {Q:AEx→St→Prop} (n k m off:Nat) {cs:List AV} (hn4:r.b≤n) (hm:O mm m=some (.cells cs)) (hi:cs[off]?=some (.p (.val (.slice none 0 0)))) (hfree:O mm n=none)
  (h:AWP P r N c ⟨T l,O ((m,.cells (cs.set off (.own n 0))) :: (n,.arr k []) :: mm)⟩ Q):AWP P r N c ⟨T l,O mm⟩ Q:=Vf n k m off hn4 hm hi hfree h
end AM
end
/- Accounts in plain Lean, and how they lie in abstract values. -/
section
namespace AM.Duty
open Go AM
structure Fi where
  day:Int
  pence:Int
  deriving DecidableEq
structure Bo where
  kind:Int
  day:Int
  lo:Int
  hi:Int
  pence:Int
  deriving DecidableEq
structure Acc where
  last:Int
  interest:Int
  bond:Int
  purse:Int
  rates:List Fi
  entries:List Bo
instance:Inhabited Fi:=⟨⟨0,0⟩⟩
instance:Inhabited Bo:=⟨⟨0,0,0,0,0⟩⟩
abbrev F2 (r:Fi):List PV:=[iv r.day,iv r.pence]
abbrev Lb (e:Bo):List PV:=[iv e.kind,iv e.day,iv e.lo,iv e.hi,iv e.pence]
abbrev avE (e:Bo):AV:=.agg [i64 e.kind,i64 e.day,i64 e.lo,i64 e.hi,i64 e.pence]
abbrev avA (a:Acc):AV:=.agg [i64 a.last,i64 a.interest,i64 a.bond,i64 a.purse,.p (.sl (a.rates.map F2)),.p (.sl (a.entries.map Lb))]
abbrev A9 (l:List Bo) (k:Nat):Bo:=l.getD k default
abbrev J4 (l:List Fi) (k:Nat):Fi:=l.getD k default
theorem B9 {l:List Bo} {k:Nat} (h:k < l.length):(l.map Lb).getD k []=Lb (A9 l k):=E6 _ _ _ h
theorem Dx {l:List Fi} {k:Nat} (h:k < l.length):(l.map F2).getD k []=F2 (J4 l k):=E6 _ _ _ h
theorem Av5 {a:PV} {l:List PV}:List.map AV.p (a :: l)=.p a :: List.map AV.p l:=rfl
def inB (n lo hi:Int):Bool:=decide (lo≤n)&&decide (n≤hi)
def Cb (last:Int) (e:Bo):Bool:=inB e.day 0 last &&
  (if e.kind=0 then decide (0≤e.lo)&&(decide (e.lo≤e.hi)&&(decide (e.hi≤50)&&decide (e.pence=0)))
   else if e.kind=1 then decide (e.lo=0)&&(decide (e.hi=0)&&inB e.pence 1 100000)
   else if e.kind=2 then inB e.lo 1 50&&(decide (e.hi=e.lo)&&decide (e.pence=0))
   else if e.kind=3 then decide (e.lo=0)&&(decide (e.hi=0)&&inB e.pence (-100000) 100000)
   else false)
end AM.Duty
namespace AM
theorem Apv {c:Prop} [Decidable c] {α:Type} {a b:α} (h:¬ c):(if c then a else b)=b:=if_neg h
end AM
end
/- The rewriting set of the walks, as one conjunction. -/
section
namespace AM
open Go AM AM.Duty
def Ay0:=PLift.up (And.intro @Ade (And.intro @Ag7 (And.intro @Y0 (And.intro @Z9 (And.intro @Ac0 (And.intro @Ak (And.intro @Pq (And.intro @G0 (And.intro @Da (And.intro @U4 (And.intro @Bz (And.intro @Vt (And.intro @Yp (And.intro @Y2 (And.intro @Ll (And.intro @R6 (And.intro @A8 (And.intro @Ax (And.intro @Qc (And.intro @Lk (And.intro @Cl (And.intro @Bp (And.intro @Gc (@Yj))))))))))))))))))))))))
def Awy:=PLift.up (And.intro @Gz (And.intro @P6 (And.intro @Aft (And.intro @Af7 (And.intro @List.cons_append.{0} (And.intro @List.append_nil.{0} (And.intro @RB.b_mk (And.intro @RB.v_mk (And.intro @RB.q_mk (And.intro @Ayi (And.intro @Aq2 (And.intro @As4 (And.intro @Ah2 (And.intro @Aht (And.intro @Ag2 (And.intro @Aao (And.intro @Ahy (And.intro @Acq (And.intro @ixs.eq_1 (And.intro @ixs.eq_2 (And.intro @Awb (And.intro @X0 (And.intro @Av4 (@Ab1))))))))))))))))))))))))
def Aq9:=PLift.up (And.intro @Ari (And.intro @Axc (And.intro @Akc (And.intro @Ajf (And.intro @Alx (And.intro @Ahq (And.intro @Ani (And.intro @Ahn (And.intro @Oer.eq_1 (And.intro @Oer.eq_2 (And.intro @Ma (And.intro @Aai (And.intro @Agt (And.intro @Abo (And.intro @Ag8 (And.intro @Afs (And.intro @Agn (And.intro @Age (And.intro @F1 (And.intro @Hx (And.intro @AV.clean.cleanL.eq_1 (And.intro @AV.clean.cleanL.eq_2 (And.intro @AV.clean.eq_1 (@AV.clean.eq_2))))))))))))))))))))))))
def Ayk:=PLift.up (And.intro @AV.clean.eq_3 (And.intro @AV.clean.eq_4 (And.intro @AV.clean.eq_5 (And.intro @AV.clean.eq_6 (And.intro @AV.clean.eq_7 (And.intro @AV.clean.eq_8 (And.intro @AV.clean.eq_9 (And.intro @AV.clean.eq_10 (And.intro @AV.clean.eq_11 (And.intro @Api (And.intro @Am7 (And.intro @Qd (And.intro @Amq (And.intro @Aik (And.intro @nm.eq_1 (And.intro @nm.eq_2 (And.intro @nm.eq_3 (And.intro @nm.eq_4 (And.intro @nm.eq_5 (And.intro @nm.eq_6 (And.intro @nm.eq_7 (And.intro @nm.eq_8 (And.intro @nm.eq_9 (@nm.eq_10))))))))))))))))))))))))
def Avx:=PLift.up (And.intro @nm.eq_11 (And.intro @nmL.eq_1 (And.intro @nmL.eq_2 (And.intro @nmT.eq_1 (And.intro @nmT.eq_2 (And.intro @nmO.eq_1 (And.intro @nmO.eq_2 (And.intro @nmO.eq_3 (And.intro @nmO.eq_4 (And.intro @Ac5.eq_1 (And.intro @Ac5.eq_2 (And.intro @Qo.eq_1 (And.intro @Qo.eq_2 (And.intro @List.contains_cons.{0} (And.intro @List.contains_nil.{0} (And.intro @Bool.or_false (And.intro @Bool.or_true (And.intro @beq_self_eq_true.{0} (And.intro @Ag3 (And.intro @Adf (And.intro @An3 (And.intro @Ady (And.intro @Acj (@Aaq))))))))))))))))))))))))
def Avj:=PLift.up (And.intro @Agf (And.intro @Acm (And.intro @Alv (And.intro @Afa (And.intro @Afk (And.intro @Amp (And.intro @Ae1 (And.intro @Anr (And.intro @Xx (And.intro @Int.toNat_natCast (And.intro @Int.natCast_nonneg (And.intro @List.length_map.{0,0} (And.intro @Int.natCast_add (And.intro @Int.natCast_succ (And.intro @Int.natCast_one (And.intro @Int.natCast_zero (And.intro @Aid (And.intro @Apv (And.intro @List.length_take_of_le.{0} (And.intro @Ala (And.intro @Vl (And.intro @Ac1 (And.intro @V7 (@T1))))))))))))))))))))))))
def Ayf:=PLift.up (And.intro @Ada (And.intro @Abc (And.intro @Ah1 (And.intro @Vs (And.intro @V2 (And.intro @T3 (And.intro @Ake (And.intro @Y7 (And.intro @Agk (And.intro @Aas (And.intro @Afv (And.intro @Nj (And.intro @Yn (And.intro @List.nil_append.{0} (And.intro @Bool.true_eq_false (And.intro @List.take_length.{0} (And.intro @true_or (And.intro @or_true (And.intro @Int.tdiv_eq_ediv_of_nonneg (And.intro @Int.tmod_eq_emod_of_nonneg (And.intro @Afu (And.intro @Amr (And.intro @Aju (@Afz))))))))))))))))))))))))
def Auc:=PLift.up (And.intro @Amt (And.intro @Ami (And.intro @Agz (And.intro @Abp (And.intro @Yy (And.intro @Wc (And.intro @Aml (And.intro @Ahi (And.intro @Afe (And.intro @Vz (And.intro @Ab5 (And.intro @Aa3 (And.intro @Av5 (And.intro @Am3 (And.intro @Int.cast_ofNat_Int (And.intro @Int.add_zero (And.intro @ELg (And.intro @Auj (And.intro @Aol (And.intro @Aqn (And.intro @Cm.eq_1 (And.intro @Cm.eq_2 (And.intro @Aqf (@Aov))))))))))))))))))))))))
def Au2:=PLift.up (And.intro @Anx (And.intro @Aiq (And.intro @Am0 (And.intro @Hm (And.intro @Ny (And.intro @L0 (And.intro @Ei (And.intro @Anu (And.intro @Kk.eq_1 (And.intro @Option.elim_some.{0,1} (And.intro @Option.elim_some.{1,0} (And.intro @Option.bind_some.{0,0} (And.intro @Option.map_some.{0,0} (And.intro @Option.isNone_none.{0} (And.intro @Option.isNone_some.{0} (And.intro @Option.isSome_some.{0} (And.intro @Option.getD_some.{0} (And.intro @Option.getD_none.{0} (And.intro @List.getElem?_cons_succ.{0} (And.intro @List.getElem?_cons_zero.{0} (And.intro @if_true.{1} (And.intro @if_false.{1} (And.intro @Bool.false_eq_true (@decide_true))))))))))))))))))))))))
def Asb:=PLift.up (And.intro @decide_false (And.intro @decide_eq_true_eq (And.intro @true_and (And.intro @and_true (And.intro @and_self (And.intro @and_false (And.intro @false_and (And.intro @Bool.true_and (And.intro @Bool.and_true (And.intro @Bool.and_self (And.intro @Bool.and_false (And.intro @Bool.false_and (And.intro @Nat.add_zero (And.intro @Nat.zero_add (And.intro @Nat.mul_one (And.intro @Nat.zero_mul (And.intro @Bool.not_true (And.intro @Bool.not_false (And.intro @not_true_eq_false (And.intro @not_false_eq_true (And.intro @List.drop_zero.{0} (And.intro @List.drop_succ_cons.{0} (And.intro @List.take_succ_cons.{0} (@List.take_zero.{0}))))))))))))))))))))))))
def Ao9:=PLift.up (And.intro @List.length_cons.{0} (And.intro @List.length_nil.{0} (And.intro @List.map_cons.{0,0} (And.intro @List.map_nil.{0,0} (And.intro @List.set_cons_zero.{0} (And.intro @List.set_cons_succ.{0} (And.intro @List.getD_cons_zero.{0} (And.intro @List.getD_cons_succ.{0} (And.intro @List.all_cons.{0} (And.intro @List.all_nil.{0} (And.intro @Gk (And.intro @Dc.eq_1 (And.intro @Nat.zero_le (And.intro @Nat.lt_add_one (And.intro @Nat.le_refl (And.intro @Nat.lt_irrefl (And.intro @Nat.not_lt_zero (And.intro @Option.some.injEq.{0} (And.intro @Al4 (And.intro @Ajg (And.intro @Al7 (And.intro @Aot (And.intro @Apq (@Afy))))))))))))))))))))))))
def Apf:=PLift.up (And.intro @Ab9 (And.intro @Amg (And.intro @Ao0 (And.intro @Abn (And.intro @Ajv (And.intro @Ajb (And.intro @Am2 (And.intro @An7 (And.intro @Am1 (And.intro @Ajq (And.intro @Afi (And.intro @Anq (And.intro @Ano (And.intro @Am6 (And.intro @Al9 (And.intro @Ai4 (And.intro @Apj (And.intro @Bao (And.intro @Ap6 (And.intro @Aqg (And.intro @Apa (And.intro @Atr (And.intro @Aye (@Aph))))))))))))))))))))))))
def Apy:=PLift.up (And.intro @Ek (And.intro @E2 (And.intro @Jj (And.intro @Hr (And.intro @Ty (And.intro @Anc (And.intro @Abi (And.intro @Zv (And.intro @Wa (And.intro @Z6 (And.intro @Akh (And.intro @Aan (And.intro @An0 (And.intro @Ahz (And.intro @Ao7 (And.intro @Yq (And.intro @Ag5 (And.intro @Aal (And.intro @Xr (And.intro @Ahk (And.intro @Ap8 (And.intro @Sz (And.intro @Akg (@Amc))))))))))))))))))))))))
def Apx:=PLift.up (And.intro @Anw (And.intro @Afj (And.intro @X8 (And.intro @Ald (And.intro @Akw (And.intro @Ai6 (And.intro @Aiu (And.intro @Alh (And.intro @Akv (And.intro @Ahm (And.intro @Ahl (And.intro @Aib (And.intro @Akj (And.intro @Ah8 (And.intro @Ah0 (And.intro @Ale (And.intro @Ajn (And.intro @Ai7 (And.intro @Als (And.intro @Mj (And.intro @Abx (And.intro @R7 (And.intro @Ht (@Aev))))))))))))))))))))))))
def Aqb:=PLift.up (And.intro @Anf (And.intro @Am8 (And.intro @An6 (And.intro @Ag6 (And.intro @Abv (And.intro @Aiv (And.intro @Afc (And.intro @Am5 (And.intro @Aa2 (And.intro @Ahu (And.intro @Acs (And.intro @Zx (And.intro @Ah9 (And.intro @Ait (And.intro @Anv (And.intro @Alt (And.intro @Aks (And.intro @Apb (And.intro @Aj1 (And.intro @Ai2 (And.intro @Aex (And.intro @Agc (And.intro @Aca (@Agb))))))))))))))))))))))))
def Apl:=PLift.up (And.intro @Bbl (And.intro @Am4 (And.intro @Ahe (And.intro @Ap1 (And.intro @Ap0 (And.intro @Av3 (And.intro @Aq4 (And.intro @Asa (@Avk)))))))))
def Ayt:=PLift.up (And.intro Ay0.down (And.intro Awy.down (And.intro Aq9.down (And.intro Ayk.down (And.intro Avx.down (And.intro Avj.down (And.intro Ayf.down (And.intro Auc.down (And.intro Au2.down (And.intro Asb.down (And.intro Ao9.down (And.intro Apf.down (And.intro Apy.down (And.intro Apx.down (And.intro Aqb.down (Apl.down))))))))))))))))
theorem amL:type_of% Ayt.down:=Ayt.down
end AM
end
/- Worts in plain Lean, and how they lie in abstract values. -/
section
namespace AM.Wort
open Go AM
structure Rng where
 lo:Int
 hi:Int
 deriving DecidableEq
structure Ves where
 g:Rng
 d:Rng
 room:Int
 deriving DecidableEq
structure Stp where
 kind:Int
 frm:Int
 to:Int
 g:Rng
 deriving DecidableEq
structure Aj5 where
 vs:List Ves
 ss:List Stp
structure Tru where
 g:List Int
 d:List Int
 m:List Int
structure Liq where
 g:Int
 e:Int
 deriving DecidableEq
structure Rdg where
 v:Int
 g:Rng
 d:Rng
structure Sta where
 g:Int
 e:Int
 k:Int
 deriving DecidableEq
instance:Inhabited Rng:=⟨⟨0,0⟩⟩
instance:Inhabited Ves:=⟨⟨default,default,0⟩⟩
instance:Inhabited Stp:=⟨⟨0,0,0,default⟩⟩
instance:Inhabited Liq:=⟨⟨0,0⟩⟩
instance:Inhabited Rdg:=⟨⟨0,default,default⟩⟩
instance:Inhabited Sta:=⟨⟨0,0,0⟩⟩
abbrev V3 (n:Int):List PV:=[iv n]
abbrev F2 (r:Rng):List PV:=[iv r.lo,iv r.hi]
abbrev avR (r:Rng):AV:=.agg [i64 r.lo,i64 r.hi]
abbrev Zu:AV:=.p (.val (.slice none 0 0))
theorem B1 {l:List Int} {k:Nat} (h:k < l.length):(l.map V3).getD k []=V3 (l.getD k 0):=E6 _ _ _ h
theorem Dx {l:List Rng} {k:Nat} (h:k < l.length):(l.map F2).getD k []=F2 (l.getD k default):=E6 _ _ _ h
def inB (n lo hi:Int):Bool:=decide (lo≤n)&&decide (n≤hi)
def Vk (r:Rng) (n:Int):Bool:=inB n r.lo r.hi
def Ak7 (r:Rng) (most:Int):Bool:=decide (0≤r.lo)&&(decide (r.lo≤r.hi)&&(decide (r.hi≤most)&&decide (r.hi - r.lo≤2)))
def Ase (v:Ves):Bool:=Ak7 v.g 60&&(Ak7 v.d 120&&inB v.room 0 60)
def Ax7 (n:Int) (s:Stp):Bool:=inB s.kind 0 2&&(inB s.frm 0 (n - 1)&&(inB s.to 0 (n - 1)&&((decide (s.frm=s.to) == !decide (s.kind=0))&&Ak7 s.g 60)))
abbrev v0:List Liq:=[⟨0,0⟩,⟨0,0⟩,⟨0,0⟩,⟨0,0⟩]
end AM.Wort
end
/- Go's slices.IndexFunc, slices.ContainsFunc and a program's 'all', at any type: whatever function tests. -/
section
namespace AM
open Go AM AM.Duty
open Nat renaming reduceLT→sA,reduceAdd→sB,reduceMul→sC,reduceSub→sD,reduceLeDiff→sE,reduceEqDiff→sF,reduceBEq→sG
open Int renaming reduceAdd→sH,reduceSub→sI,reduceMul→sJ,reduceLT→sK,reduceLE→sL,reduceNeg→sM,reduceToNat→sN,reduceEq→sO
set_option maxHeartbeats 4000000
def Dk {σ α:Type} (step:σ→α→σ × Bool):σ→List α→Nat→σ × Int
  | s,[],_=>(s,-1)
  | s,x :: l,k=>if (step s x).2=true then ((step s x).1,k) else Dk step (step s x).1 l (k+1)
theorem U9 {α:Type} {l:List α} {k:Nat} (d:α) (h:k < l.length):l.drop k=l.getD k d :: l.drop (k+1):=by
  rw [List.drop_eq_getElem_cons h]; simp [List.getD,h]
theorem Kl {σ α:Type} {step:σ→α→σ × Bool} {l:List α} {k:Nat} (d:α) {s:σ} (h:k < l.length):Dk step s (l.drop k) k=if (step s (l.getD k d)).2=true then ((step s (l.getD k d)).1,(k:Int)) else Dk step (step s (l.getD k d)).1 (l.drop (k+1)) (k+1):=by
  rw [U9 d h]; rfl
theorem Kx {σ α:Type} {step:σ→α→σ × Bool} {l:List α} {k:Nat} (d:α) {s:σ} {R:σ × Int} (h:k < l.length) (hb:(step s (l.getD k d)).2=false) (hr:Dk step s (l.drop k) k=R):Dk step (step s (l.getD k d)).1 (l.drop (k+1)) (k+1)=R:=by
  rw [← hr,Kl d h,if_neg (by rw [hb]; simp)]
theorem D9 {σ α:Type} {step:σ→α→σ × Bool} {l:List α} {k:Nat} (d:α) {s:σ} {R:σ × Int} (h:k < l.length) (hb:(step s (l.getD k d)).2=true) (hr:Dk step s (l.drop k) k=R):R=((step s (l.getD k d)).1,(k:Int)):=by
  rw [← hr,Kl d h,if_pos hb]
theorem E9 {σ α:Type} {step:σ→α→σ × Bool} {l:List α} {k:Nat} {s:σ} {R:σ × Int} (h:l.length≤k) (hr:Dk step s (l.drop k) k=R):R=(s,-1):=by
  rw [← hr,List.drop_of_length_le h]; rfl
def Ca {σ α:Type} (step:σ→α→σ × Bool):σ→List α→σ × Bool
  | s,[]=>(s,true)
  | s,x :: l=>if (step s x).2=true then Ca step (step s x).1 l else ((step s x).1,false)
theorem H3 {σ α:Type} {step:σ→α→σ × Bool}:∀ (l:List α) (s:σ) (k:Nat),(Dk (fun s x=>((step s x).1,!(step s x).2)) s l k).1=(Ca step s l).1∧(!decide (0≤(Dk (fun s x=>((step s x).1,!(step s x).2)) s l k).2))=(Ca step s l).2
  | [],s,k=>⟨rfl,rfl⟩
  | x :: l,s,k=>by
    simp only [Dk,Ca]
    cases h:(step s x).2 with
    | false=>simp
    | true=>simpa using H3 l (step s x).1 (k+1)
theorem Ee {α:Type} {l:List α} {k:Nat} (d:α) (h:k < l.length):l.getD k d ∈ l:=by
  rw [← List.getElem_eq_getD (h:=h)]; exact List.getElem_mem _
structure Cv (P:Program) (fv:AV) (F:Nat→Prop) {σ α:Type} (arg:α→AV) (l:List α) (I:σ→(Nat→Option AO)→Prop) (step:σ→α→σ × Bool):Prop where
  live:∀ s os,I s os→fv.lives os
  stable:∀ s os os',I s os→(∀ n,F n→os' n=os n)→I s os'
  foot:∀ s os n,I s os→F n→∃ o,os n=some o∧∀ m,o.clean m=false→F m
  call:∀ s x os bd,x ∈ l→I s os→(Hp os).closed→Bm P bd fv [arg x] os fun res os'=>res=bl (step s x).2∧I (step s x).1 os'∧∀ n,¬ F n→os' n=os n
def Ap (bd:Nat) (os:Nat→Option AO):Nat→Option AO:=fun n=>if n < bd then os n else none
theorem Bj {bd n:Nat} {os:Nat→Option AO} (h:n < bd):Ap bd os n=os n:=if_pos h
theorem De {bd n:Nat} {os:Nat→Option AO} (h:bd≤n):Ap bd os n=none:=if_neg (by omega)
theorem Bh (bd:Nat) (os:Nat→Option AO):Sub (Ap bd os) os:=fun n=>by
  by_cases h:n < bd
  · exact .inr (Bj h)
  · exact .inl (De (by omega))
theorem Al {bd n:Nat} {os:Nat→Option AO} (hf:∀ n,bd≤n→os n=none) {o:AO} (h:os n=some o):n < bd:=by
  cases Nat.lt_or_ge n bd with
  | inl h=>exact h
  | inr h'=>rw [hf n h'] at h; cases h
theorem Cv.drop {P:Program} {fv:AV} {F:Nat→Prop} {σ α:Type} {arg:α→AV} {l:List α} {I:σ→(Nat→Option AO)→Prop} {step:σ→α→σ × Bool} (hT:Cv P fv F arg l I step) {os os2:Nat→Option AO} {bd:Nat} (hcl:(Hp os).closed) (hfree:∀ n,bd≤n→os n=none) {s s':σ} (hs:I s os) (hI:I s' os2) (hfr:∀ n,n < bd→¬ F n→os2 n=os n) :
    (Hp (Ap bd os2)).closed∧I s' (Ap bd os2)∧∀ n,¬ F n→Ap bd os2 n=os n:=by
  have hF:∀ n,F n→n < bd:=fun n hn=>by obtain ⟨o,h,_⟩:=hT.foot s os n hs hn; exact Al hfree h
  have hfr2:∀ n,¬ F n→Ap bd os2 n=os n:=fun n hn=>by
    by_cases h:n < bd
    · rw [Bj h]; exact hfr n h hn
    · rw [De (by omega),hfree n (by omega)]
  refine ⟨⟨fun _=>AV.lives_undef _,fun n o hn=>?_⟩,hT.stable s' os2 _ hI (fun n hn=>Bj (hF n hn)),hfr2⟩
  have hn:Ap bd os2 n=some o:=hn
  by_cases hFn:F n
  · obtain ⟨o',h1,h2⟩:=hT.foot s' os2 n hI hFn
    rw [Bj (hF n hFn),h1] at hn
    cases hn
    intro m hm
    obtain ⟨o'',h3,_⟩:=hT.foot s' os2 m hI (h2 m hm)
    show (Ap bd os2 m).isSome=true
    rw [Bj (hF m (h2 m hm)),h3]; rfl
  · rw [hfr2 n hFn] at hn
    intro m hm
    have h3:=hcl.2 n o hn m hm
    show (Ap bd os2 m).isSome=true
    by_cases hFm:F m
    · obtain ⟨o',h1,_⟩:=hT.foot s' os2 m hI hFm
      rw [Bj (hF m hFm),h1]; rfl
    · rw [hfr2 m hFm]; exact h3
structure ElT (P:Program) (tS tE:TypeId) {α:Type} (arg:α→AV) (enc:α→List PV):Prop where
  s:(Ab P tS).k=.sl tE
  z:∀ x,(enc x).length=(Ab P tE).sz
  g:(Ab P tE).agg.isSome=true
  ld:∀ os x,Ec (Ab P tE).agg (Ab P tE).sz os (.p (.ro (enc x)))=some (.pure (arg x))
  bx:∀ x,(arg x).cs?=some ((enc x).map .p)
  ld2:∀ os n x,os n=some (.cells ((enc x).map .p))→Ec (Ab P tE).agg (Ab P tE).sz os (.ptr n 0)=some (.pure (arg x))
  lv:∀ os x,(arg x).lives os
theorem Aly {P:Program} {tS tE n:TypeId} {α:Type} {enc:α→List PV} (hs:(Ab P tS).k=.sl tE) (hg:(Ab P tE).agg=some true) (hn:(Ab P tE).sz=n) (hl:∀ x,(enc x).length=n):ElT P tS tE (fun x=>.agg ((enc x).map .p)) enc:=by
  refine ⟨hs,fun x=>by rw [hl,hn],by rw [hg]; rfl,fun os x=>?_,fun x=>rfl,fun os m x h=>?_,fun os x=>?_⟩
  · rw [hg,hn,Jj,Abn,List.length_map,hl,if_pos (Nat.le_refl _),List.take_of_length_le (by rw [List.length_map,hl]; exact Nat.le_refl _)]; rfl
  · rw [hg,hn,Ek,h,Hr,List.drop_zero,Abn,List.length_map,hl,if_pos (Nat.le_refl _),List.take_of_length_le (by rw [List.length_map,hl]; exact Nat.le_refl _)]; rfl
  · exact AV.lives_agg.2 fun i y hy=>by
      rw [List.getElem?_map,Option.map_eq_some_iff] at hy
      obtain ⟨z,_,rfl⟩:=hy
      exact AV.lives_p _ _
theorem Ad4 {P:Program} {tS tE:TypeId} {α:Type} {f:α→PV} (hs:(Ab P tS).k=.sl tE) (hg:(Ab P tE).agg=some false) (hn:(Ab P tE).sz=1):ElT P tS tE (fun x=>.p (f x)) (fun x=>[f x]):=
  ⟨hs,fun x=>by rw [hn]; rfl,by rw [hg]; rfl,fun os x=>by rw [hg,Jj]; rfl,fun x=>rfl,fun os m x h=>by rw [hg,Ek,h,Hr]; rfl,fun os x=>AV.lives_p _ _⟩
def At2 (tS tE tF tI tB:Nat):Code:=
  (.seq (.region 0 #[⟨some 4, .assign (.const (.int .i64 0)), tI, "slices.go:107", #[], none⟩] false) (.seq (.seq (.region 1 #[⟨some 6, .move (.tmp 0), tS, "slices.go:108", #[], none⟩, ⟨some 7, .call ⟨(.builtin .len), #[(.tmp 6)], #[tS]⟩, tI, "slices.go:108", #[⟨0, .data⟩], none⟩, ⟨some 8, .move (.const (.int .i64 0)), tI, "slices.go:108", #[], none⟩] false) (.block 0 (.loop (.seq (.region 2 #[⟨some 9, .binOp .lss tI (.tmp 8) (.tmp 7) tI, 0, "slices.go:108", #[], none⟩] false) (.seq (.cond (.tmp 9) .skip (.exit 0)) (.seq (.block 1 (.seq (.region 3 #[⟨some 10, .move (.tmp 8), tI, "slices.go:108", #[], none⟩, ⟨some 5, .assign (.tmp 10), tI, "slices.go:108", #[⟨0, .data⟩, ⟨0, .phase⟩], none⟩] false) (.seq (.region 4 #[⟨some 11, .move (.tmp 1), tF, "slices.go:109", #[], none⟩, ⟨some 12, .move (.tmp 0), tS, "slices.go:109", #[], none⟩, ⟨some 13, .move (.tmp 5), tI, "slices.go:109", #[], none⟩, ⟨some 14, .indexAddr tS (.tmp 12) (.tmp 13), 0, "slices.go:109", #[⟨1, .data⟩, ⟨2, .data⟩], none⟩, ⟨some 15, .load tE (.tmp 14), tE, "slices.go:109", #[⟨3, .data⟩], none⟩, ⟨some 16, .call ⟨(.value (.tmp 11)), #[(.tmp 15)], #[tE]⟩, tB, "slices.go:109", #[⟨0, .data⟩, ⟨4, .data⟩], none⟩] false) (.cond (.tmp 16) (.seq (.region 5 #[⟨some 17, .move (.tmp 5), tI, "slices.go:110", #[], none⟩, ⟨some 4, .assign (.tmp 17), tI, "slices.go:110", #[⟨0, .data⟩, ⟨0, .phase⟩], none⟩] false) .ret) .skip)))) (.region 6 #[⟨some 18, .binOp .add tI (.tmp 8) (.const (.int .i64 1)) tI, tI, "slices.go:108", #[], none⟩, ⟨some 8, .move (.tmp 18), tI, "slices.go:108", #[⟨0, .data⟩], none⟩] false))))))) (.seq (.region 7 #[⟨some 4, .assign (.const (.int .i64 (-1))), tI, "slices.go:113", #[], none⟩] false) .ret)))
def Azk (tS tF tI tB fI:Nat):Code:=
  (.seq (.region 0 #[⟨some 4, .assign (.const (.bool false)), tB, "slices.go:124", #[], none⟩] false) (.seq (.region 1 #[⟨some 5, .move (.tmp 0), tS, "slices.go:125", #[], none⟩, ⟨some 6, .move (.tmp 1), tF, "slices.go:125", #[], none⟩, ⟨some 7, .call ⟨(.value (.func fI)), #[(.tmp 5), (.tmp 6)], #[tS, tF]⟩, tI, "slices.go:125", #[⟨0, .data⟩, ⟨1, .data⟩], none⟩, ⟨some 8, .binOp .geq tI (.tmp 7) (.const (.int .i64 0)) tI, tB, "slices.go:125", #[⟨2, .data⟩], none⟩, ⟨some 4, .assign (.tmp 8), tB, "slices.go:125", #[⟨3, .data⟩, ⟨2, .chain⟩, ⟨0, .phase⟩, ⟨1, .phase⟩, ⟨2, .phase⟩, ⟨3, .phase⟩], none⟩] false) .ret))
theorem Aut {α β:Type} {f:α→β} {l:List α} {k:Nat} {x:α} {y:β} (h:k < l.length):(l.map f).getD k y=f (l.getD k x):=E6 _ _ _ h
theorem Ar5 {P:Program} {σ α:Type} {tS tE tF tI tB:Nat} {arg:α→AV} {enc:α→List PV} [Inhabited α] (hE:ElT P tS tE arg enc) {fn:Func} {f:Nat} (hf:P.funcs[f]?=some fn) (hb:fn.body=some (At2 tS tE tF tI tB)) (hN:fn.ntmps=19) (hrs:fn.results.toList=[.tmp 4]) (hcal:Bs P f=true)
    {fv:AV} {F:Nat→Prop} {l:List α} {I:σ→(Nat→Option AO)→Prop} {step:σ→α→σ × Bool} (hl:l.length < 1000000) (hT:Cv P fv F arg l I step) {s:σ} {os:Nat→Option AO} {bd:Nat} (hI:I s os) :
    Bm P bd (.fn (.func f) [] []) [.p (.sl (l.map enc)),fv] os fun res os'=>res=i64 (Dk step s l 0).2∧I (Dk step s l 0).1 os'∧∀ n,¬ F n→os' n=os n:=by
  refine Bn (v:=[]) (q:=[]) (N:=19) (rs:=[.tmp 4]) hf hb hcal hN hrs (fun hcl hfree=>?_)
  have hfreeI:∀ (s1:σ) os1,I s1 os1→(∀ n,¬ F n→os1 n=os n)→∀ n,bd≤n→os1 n=none:=fun s1 os1 h1 h2 n hn=>by
    by_cases hFn:F n
    · obtain ⟨o,h3,_⟩:=hT.foot s os n hI hFn
      have:=Al hfree h3; omega
    · rw [h2 n hFn]; exact hfree n hn
  have hS:=hE.s
  have hz:=hE.z
  have hg:=hE.g
  have hld:=hE.ld
  refine Aa fun K1 hK1=>?_
  refine Ac ?_
  simp (disch:=omega) only [eq_self,amL,sA,sB]
  refine hK1 _ ?_
  refine Aa fun K2 hK2=>?_
  refine Aa fun K3 hK3=>?_
  refine Ac ?_
  simp (disch:=omega) only [hS,eq_self,amL,sA,↓reduceIte,reduceCtorEq]
  refine hK3 _ ?_
  refine Ai ?_
  skip
  refine A7 (α:=Nat × σ × (Nat→Option AO)) (fun x=>⟨T [(0,.p (.sl (l.map enc))),(1,fv),(8,i64 x.1),(7,i64 l.length)],x.2.2⟩) (fun x=>l.length - x.1) (fun x=>x.1≤l.length∧I x.2.1 x.2.2∧(Hp x.2.2).closed∧(∀ n,¬ F n→x.2.2 n=os n)∧Dk step x.2.1 (l.drop x.1) x.1=Dk step s l 0) (0,s,os) ?_ ?_ (fun x hx4 K4 hK4=>?_)
  · exact ⟨by simp,hI,hcl,fun _ _=>rfl,by simp⟩
  · refine Dz ?_ ?_ ?_ ?_ <;> (try simp (disch:=omega) only [eq_self,amL,sF,↓reduceIte,reduceCtorEq]); all_goals first | exact hcl | exact Sub.refl _ | exact hT.live _ _ hI
  obtain ⟨k,s1,os1⟩:=x; dsimp only at hx4 ⊢; obtain ⟨hk,hI1,hcl1,hfr1,hsc⟩:=hx4
  refine Aa fun K5 hK5=>?_
  refine Ac ?_
  simp (disch:=omega) only [eq_self,amL,sA,sF,↓reduceIte,reduceCtorEq]
  refine hK5 _ ?_
  refine Aa fun K6 hK6=>?_
  refine Ag rfl (fun h=>?_) (fun h=>?_)
  ·first
   | exact Bool.noConfusion h
   |skip
    try simp only [decide_eq_true_eq] at h
    refine Aj ?_
    refine hK6 _ ?_
    refine Aa fun K7 hK7=>?_
    refine Ai ?_
    refine Aa fun K8 hK8=>?_
    refine Ac ?_
    simp (disch:=omega) only [eq_self,amL,sA,sF,↓reduceIte,reduceCtorEq]
    refine hK8 _ ?_
    refine Aa fun K9 hK9=>?_
    refine Ac ?_
    simp (disch:=omega) only [Aut (x:=default),hS,hg,hz,hld,eq_self,amL,sA,sF,↓reduceIte,reduceCtorEq]
    refine Be [(0,.p (.sl (l.map enc))),(1,fv),(5,i64 k),(8,i64 k),(7,i64 l.length)] (by decide) (hT.call s1 (l.getD k default) os1 bd (Ee default (by omega)) hI1 hcl1) (hfreeI _ _ hI1 hfr1) (Nat.le_refl _) (fun res os2 hR hcl2 hlv2=>?_)
    obtain ⟨rfl,hI2,hfr2⟩:=hR
    have hv2:=hT.live _ _ hI2
    simp (disch:=omega) only [eq_self,amL,sF,↓reduceIte,reduceCtorEq]
    refine ⟨hv2,?_⟩
    refine hK9 _ ?_
    refine Ag rfl (fun h=>?_) (fun h=>?_)
    ·first
     | exact Bool.noConfusion h
     |skip
      try simp only [Bool.not_eq_true',decide_eq_true_eq,decide_eq_false_iff_not,Bool.and_eq_true,Bool.not_eq_false',Bool.not_not,decide_not,Bool.not_true,Bool.not_false] at h
      refine Aa fun K10 hK10=>?_
      refine Ac ?_
      simp (disch:=omega) only [eq_self,amL,sA,sF,↓reduceIte,reduceCtorEq]
      refine hK10 _ ?_
      refine Ae ?_
      try simp (disch:=omega) only [amL]
      first | (refine Az (res:=i64 _) os1 (by simp (disch:=omega) only [eq_self,amL,↓reduceIte]; try rfl) (Sub.refl _) hcl1 (AV.lives_p _ _) ?_ ; rw [E9 (by omega) hsc]; exact ⟨rfl,hI1,hfr1⟩) | (refine Az (res:=i64 _) os2 (by simp (disch:=omega) only [eq_self,amL,↓reduceIte]; try rfl) (Sub.refl _) hcl2 (AV.lives_p _ _) ?_ ; rw [D9 default (by omega) h hsc]; exact ⟨rfl,hI2,fun n hn=>(hfr2 n hn).trans (hfr1 n hn)⟩)
    ·first
     | exact Bool.noConfusion h
     |skip
      try simp only [Bool.not_eq_true',decide_eq_true_eq,decide_eq_false_iff_not,Bool.and_eq_true,Bool.not_eq_false',Bool.not_not,decide_not,Bool.not_true,Bool.not_false] at h
      refine Aj ?_
      refine hK7 _ ?_
      refine Ac ?_
      simp (disch:=omega) only [eq_self,amL,sA,sF,↓reduceIte,reduceCtorEq]
      refine hK4 (k+1,(step s1 (l.getD k default)).1,os2) _ ?_ ?_ (Dz ?_ ?_ ?_ ?_)
      all_goals (try simp (disch:=omega) only [eq_self,amL,sF,↓reduceIte,reduceCtorEq])
      all_goals first | exact ⟨by omega,hI2,hcl2,fun n hn=>(hfr2 n hn).trans (hfr1 n hn),Kx default (by omega) h hsc⟩ | omega | exact hcl2 | exact Sub.refl _ | exact hv2
  ·first
   | exact Bool.noConfusion h
   |skip
    try simp only [decide_eq_false_iff_not] at h
    refine Bg ?_
    refine hK2 _ ?_
    refine Aa fun K11 hK11=>?_
    refine Ac ?_
    simp (disch:=omega) only [eq_self,amL,sA,sM]
    refine hK11 _ ?_
    refine Ae ?_
    try simp (disch:=omega) only [amL,sM]
    first | (refine Az (res:=i64 _) os1 (by simp (disch:=omega) only [eq_self,amL,sM,↓reduceIte]; try rfl) (Sub.refl _) hcl1 (AV.lives_p _ _) ?_ ; rw [E9 (by omega) hsc]; exact ⟨rfl,hI1,hfr1⟩) | (refine Az (res:=i64 _) os2 (by simp (disch:=omega) only [Aut (x:=default),hS,hg,hz,hld,eq_self,amL,sA,sB,sC,sD,sE,sF,sG,sH,sI,sJ,sK,sL,sM,sN,sO,↓reduceIte,reduceCtorEq]; try rfl) (Sub.refl _) hcl2 (AV.lives_p _ _) ?_ ; rw [D9 default (by omega) h hsc]; exact ⟨rfl,hI2,fun n hn=>(hfr2 n hn).trans (hfr1 n hn)⟩)
def Ap9 (P:Program) (f1:Nat) (fv:AV) (F:Nat→Prop) {σ α:Type} (arg:α→AV) (l:List α) (I:σ→(Nat→Option AO)→Prop) (step:σ→α→σ × Bool):Prop:=∀ nb,¬ F nb→∀ s x os bd,x ∈ l→I s os→os nb=some (.cells [fv]) →
  Bm P bd (.fn (.func f1) [] [.ptr nb 0]) [arg x] os fun res os'=>res=bl (!(step s x).2)∧(I (step s x).1 os'∧os' nb=some (.cells [fv]))∧∀ n,¬ (F n∨n=nb)→os' n=os n
structure Qh (P:Program) (tS tE tF tI tB fI fC:Nat):Prop where
  i:∃ fn,P.funcs[fI]?=some fn∧fn.body=some (At2 tS tE tF tI tB)∧fn.ntmps=19∧fn.results.toList=[.tmp 4]∧Bs P fI=true
  c:∃ fn,P.funcs[fC]?=some fn∧fn.body=some (Azk tS tF tI tB fI)∧fn.ntmps=9∧fn.results.toList=[.tmp 4]∧Bs P fC=true
theorem Axn {P:Program} {σ α:Type} {tS tE tF tI tB:Nat} {arg:α→AV} {enc:α→List PV} [Inhabited α] (hE:ElT P tS tE arg enc) {fI fC:Nat} (hF:Qh P tS tE tF tI tB fI fC) {fv:AV} {F:Nat→Prop} {l:List α} {I:σ→(Nat→Option AO)→Prop} {step:σ→α→σ × Bool} (hl:l.length < 1000000) (hT:Cv P fv F arg l I step) {s:σ} {os:Nat→Option AO} {bd:Nat} (hI:I s os) :
    Bm P bd (.fn (.func fC) [] []) [.p (.sl (l.map enc)),fv] os fun res os'=>res=bl (decide (0≤(Dk step s l 0).2))∧I ((Dk step s l 0).1) os'∧∀ n,¬ F n→os' n=os n:=by
  obtain ⟨fi,i1,i2,i3,i4,i5⟩:=hF.i
  obtain ⟨fn,hf,hb,hN,hrs,hcal⟩:=hF.c
  have cI:=Ar5 hE i1 i2 i3 i4 i5 hl hT (bd:=bd) hI
  refine Bn (v:=[fI]) (q:=[]) (N:=9) (rs:=[.tmp 4]) hf hb hcal hN hrs (fun hcl hfree=>?_)
  refine Aa fun K1 hK1=>?_
  refine Ac ?_
  simp (disch:=omega) only [amL,sA,sB]
  refine hK1 _ ?_
  refine Aa fun K2 hK2=>?_
  refine Ac ?_
  simp (disch:=omega) only [amL,sA,sF,↓reduceIte,reduceCtorEq]
  refine Be [] (by decide) cI hfree (Nat.le_refl _) (fun res os2 hR hcl2 hlv2=>?_)
  obtain ⟨rfl,hI2,hfr2⟩:=hR
  simp (disch:=omega) only [amL,sA,↓reduceIte]
  refine hK2 _ ?_
  refine Ae ?_
  try simp (disch:=omega) only [amL]
  refine Az (res:=bl _) os2 (by simp (disch:=omega) only [amL,↓reduceIte]; try rfl) (Sub.refl _) hcl2 (AV.lives_p _ _) ⟨rfl,hI2,hfr2⟩
theorem Ay3 {P:Program} {σ α:Type} {arg:α→AV} [Inhabited α] {f1:Nat} {fv:AV} {F:Nat→Prop} {l:List α} {I:σ→(Nat→Option AO)→Prop} {step:σ→α→σ × Bool} (hU:Ap9 P f1 fv F arg l I step) (hT:Cv P fv F arg l I step) {nb:Nat} (hnb:¬ F nb) (hfv:∀ m,fv.clean m=false→F m) :
    Cv P (.fn (.func f1) [] [.ptr nb 0]) (fun n=>F n∨n=nb) arg l (fun s os=>I s os∧os nb=some (.cells [fv])) (fun s x=>((step s x).1,!(step s x).2)):=by
  refine ⟨fun s os hI=>?_,fun s os os' hI h=>⟨hT.stable s os os' hI.1 (fun n hn=>h n (.inl hn)),(h nb (.inr rfl)).trans hI.2⟩,fun s os n hI hn=>?_,fun s x os bd hx hI _=>hU nb hnb s x os bd hx hI.1 hI.2⟩
  · rw [Cl,A8,Ax,A8,Bz,hI.2]; exact ⟨trivial,rfl,trivial⟩
  · rcases hn with hn | rfl
    · obtain ⟨o,h1,h2⟩:=hT.foot s os n hI.1 hn
      exact ⟨o,h1,fun m hm=>.inl (h2 m hm)⟩
    · refine ⟨_,hI.2,fun m hm=>.inl (hfv m ?_)⟩
      simpa [AO.clean,AV.clean.cleanL] using hm
theorem W2 {x:AV} (h:x.isP=true) (m:Nat):x.clean m=true:=by
  cases hx:x.clean m with
  | true=>rfl
  | false=>have:=Cy (fun _=>none) h m hx; cases this
theorem Alw {P:Program} {α:Type} {arg:α→AV} {l:List α} {f:Nat} {fs:List AV} {g:α→Bool} (hcal:Bs P f=true) (hfs:fs.all AV.isP=true) (h:∀ x ∈ l,Bf P f (fs++[arg x]) (bl (g x))):Cv P (.fn (.func f) fs []) (fun _=>False) arg l (fun (_:Unit) _=>True) (fun _ x=>((),g x)) where
  live _ os _:=by
    rw [Cl]
    refine ⟨E5.2 fun i x hx=>Cy _ (List.all_eq_true.1 hfs x (List.mem_of_getElem? hx)),trivial⟩
  stable _ _ _ _ _:=trivial
  foot _ _ _ _ hn:=hn.elim
  call _ x os bd hx _ _:=by
    refine Bm.mono (M9 hcal (args:=[arg x]) (cs:=[]) (by rw [List.append_nil]; exact h x hx)) ?_
    rintro r os' ⟨rfl,rfl⟩
    exact ⟨rfl,trivial,fun _ _=>rfl⟩
theorem Dy {α:Type} {g:α→Bool}:∀ (l:List α),(Ca (fun (_:Unit) x=>((),g x)) () l).2=l.all g
  | []=>rfl
  | x :: l=>by
    simp only [Ca,List.all_cons]
    cases h:g x
    · rfl
    · simp only [if_true,Bool.true_and]; exact Dy l
end AM
end
