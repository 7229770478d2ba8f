/- Lemmas for the proof: more of the program's functions, walked on the abstract machine. -/
import Derived.Test.YtbgiddcgdgdmbaaXWiderA
/- The program: what vessels have after all steps, in all truths, one after the other: the iterator. -/
section
namespace AM.Try
open Go AM AM.Wort Go.Proofs
open Nat renaming reduceLT→sA,reduceAdd→sB,reduceMul→sC,reduceSub→sD,reduceLeDiff→sE,reduceEqDiff→sF,reduceBEq→sG
open Int renaming reduceAdd→sH,reduceSub→sI,reduceMul→sJ,reduceLT→sK,reduceLE→sL,reduceNeg→sM,reduceToNat→sN,reduceEq→sO
set_option maxRecDepth 100000
set_option maxHeartbeats 16000000
def Bii (b:Ed):List Liq→Bool→List (List Int)→List (List Liq)
 | _,_,[]=>[]
 | last,first,x :: l=>if Bhv b x=false∨(first=false∧Bhe b x=last) then Bii b last first l else Bhe b x :: Bii b (Bhe b x) false l
def Bhi (b:Ed):List (List Liq):=Bii b v0 true (Bha (Fy b) [])
theorem Bl3 {σ:Type} {b:Ed} {step:σ→List Liq→σ × Bool}:∀ (l:List (List Int)) (s:σ) (last:List Liq) (first:Bool),
  (Gb (fun (s:(σ × List Liq × Bool) × Option Code) x=>(Bj5 b step s.1 x,(Bj5 b step s.1 x).2.isNone)) ((s,last,first),none) l).1.1.1=(Gb step s (Bii b last first l)).1 ∧
  ((Gb (fun (s:(σ × List Liq × Bool) × Option Code) x=>(Bj5 b step s.1 x,(Bj5 b step s.1 x).2.isNone)) ((s,last,first),none) l).1.2=none∨(Gb (fun (s:(σ × List Liq × Bool) × Option Code) x=>(Bj5 b step s.1 x,(Bj5 b step s.1 x).2.isNone)) ((s,last,first),none) l).1.2=some .ret)
 | [],s,last,first=>⟨rfl,.inl rfl⟩
 | x :: l,s,last,first=>by
  by_cases hC:Bhv b x=false∨(first=false∧Bhe b x=last)
  ·have hb:=Bjo (step:=step) (s:=(s,last,first)) hC
   simp only [Gb,hb,Option.isNone_none,if_true,Bii,if_pos hC]
   exact Bl3 l s last first
  ·cases hs:(step s (Bhe b x)).2 with
   | true=>
    have hb:=Bjm (step:=step) (s:=(s,last,first)) hC hs
    simp only [Gb,hb,Option.isNone_none,if_true,Bii,if_neg hC,hs]
    exact Bl3 l _ _ _
   | false=>
    have hb:=Biy (step:=step) (s:=(s,last,first)) hC hs
    simp only [Gb,hb,Option.isNone_some,Bool.false_eq_true,if_false,Bii,if_neg hC,hs]
    exact ⟨trivial,.inr trivial⟩
theorem Bo2 {b:Ed} (hv:Pb b):∀ r ∈ Fy b,0≤r.lo∧r.lo≤r.hi∧r.hi≤1000:=by
 intro r hr
 unfold Fy at hr
 simp only [List.mem_append,List.mem_map] at hr
 rcases hr with (⟨v,h1,rfl⟩ | ⟨v,h1,rfl⟩) | ⟨s,h1,rfl⟩
 ·have h:=C9 (Da (List.all_eq_true.1 hv.v v h1)).1
  omega
 ·have h:=C9 (Da (List.all_eq_true.1 hv.v v h1)).2.1
  omega
 ·have h:=C9 (Fq (List.all_eq_true.1 hv.s s h1)).2.2.2.2
  omega
abbrev osE (os:Nat→Option AO) (bd:Nat) (b:Ed) (yv:AV):Nat→Option AO:=
 upd (upd (upd (upd (upd os (bd+2) (some (.cells [yv]))) (bd+3) (some (.cells (cW v0)))) (bd+4) (some (.cells [bl true]))) (bd+33+3) (some (.cells [.p (.sl ((Fy b).map Hy))]))) (bd+33+4) (some (.cells [i64 b.vs.length]))
theorem Bmq {b:Ed} {yv:AV} {F:Nat→Prop} {σ:Type} {L:List (List Liq)} {go:σ→Prop} {I:σ→(Nat→Option AO)→Prop} {step:σ→List Liq→σ × Bool} (hY:Ahe Try.prog yv F avW L go I step) (hcs:yv.cs?=some [yv]) (hL:∀ x ∈ Bha (Fy b) [],Bhv b x=true→Bhe b x ∈ L) (hv:Pb b) (own:∀ q,yv.clean q=false→F q) {n1 nw m:Nat} (f1:¬ F n1) (fw:¬ F nw) (fm:¬ F m) {s:σ} {os:Nat→Option AO} {bd:Nat} (o1:os n1=some (.cells [.ptr nw 0])) (hW:Wk b.vs b.ss nw m os) (hg:go s) (hI:I s os) :
  Bh Try.prog bd (.fn (.func 142) [] [.ptr n1 0]) [yv] os fun res os'=>res=.tup []∧I (Gb step s (Bhi b)).1 os'∧∀ n,¬ F n→os' n=os n:=by
 refine X4 (v:=[143]) (q:=[]) (N:=33) (rs:=[]) Try.func142 rfl (by kernel_rfl) rfl rfl (fun hcl hfree=>?_)
 have hfr0:∀ k,os (bd+k)=none:=fun k=>hfree _ (by omega)
 have ow:=hW.ow
 have om:=hW.om
 have b1:=Ap hfree o1
 have bw:=Ap hfree ow
 have bm:=Ap hfree om
 have hF:∀ q,F q→q < bd:=fun q hq=>by obtain ⟨o,h,_⟩:=hY.foot s os q hI hq; exact Ap hfree h
 have hFb:∀ k,¬ F (bd+k):=fun k h=>by have:=hF _ h; omega
 have hlv:=hY.live _ _ hI
 have hnv:=hv.nv
 have hns:=hv.ns
 obtain ⟨A,B,hcode⟩:∃ A B,(Try.f142.body.bind Nl)=some (A,B):=⟨_,_,rfl⟩
 have hRd:=Bom (step:=step) (n1:=n1) (nw:=nw) (m:=m) (ny:=bd+2) (nl:=bd+3) (nf:=bd+4) (bdL:=bd+40) hY hL hv own f1 fw fm (hFb 2) (hFb 3) (hFb 4) (hFb 40) (by omega) (by omega) (by omega) (by omega) (by omega) (by omega) hcode
 refine Lj fun K1 hK1=>?_
 refine Ah ?_
 simp (disch:=(first | assumption | omega)) only [hfr0,hcs,amL,sA,sB,↓reduceIte]
 refine hK1 _ ?_
 refine Lj fun K2 hK2=>?_
 refine Ah ?_
 simp (disch:=(first | assumption | omega)) only [hfr0,Ac,amL,amT,sA,sB,↓reduceIte]
 refine hK2 _ ?_
 refine Lj fun K3 hK3=>?_
 refine Ah ?_
 simp (disch:=(first | assumption | omega)) only [hfr0,Ac,Bz,amL,amT,sA,↓reduceIte]
 refine hK3 _ ?_
 refine Lj fun K4 hK4=>?_
 refine Ah ?_
 simp (disch:=(first | assumption | omega)) only [o1,Ac,amL,amT,sA,sF,↓reduceIte,reduceCtorEq]
 refine A2 [(1,.ptr n1 0),(2,.ptr (bd+2) 0),(3,.ptr (bd+3) 0),(4,.ptr (bd+4) 0)] (by decide) (Bod (b:=b) (nw:=nw) (m:=m) (bd:=bd+33) (by omega) (by omega) (by simp (disch:=omega) only [Ac]; exact ow)) (fun q hq=>by simp (disch:=omega) only [Ac]; exact hfree q (by omega)) (Nat.le_add_right _ _) (fun res os2 hR hcl2 hlv2=>?_)
 obtain ⟨rfl,rfl⟩:=hR
 simp (disch:=(first | assumption | omega)) only [o1,Ac,amL,sF,↓reduceIte,reduceCtorEq]
 refine hK4 _ ?_
 refine Vi ?_
 have hI0:EnI b yv I n1 nw m (bd+2) (bd+3) (bd+4) (s,v0,true) (upd (osE os bd b yv) (bd+40) (some (.loop ⟨33,[10],A,B,.ready,none⟩ (tmE n1 (bd+2) (bd+3) (bd+4))))):=⟨hY.stable _ _ _ hI (fun q hq=>by have:=hF q hq; simp (disch:=omega) only [Ac]),by simp (disch:=omega) only [Ac]; exact o1,⟨by simp (disch:=omega) only [Ac]; exact ow,by simp (disch:=omega) only [Ac]; exact om⟩,by simp (disch:=omega) only [Ac,Bc],by simp (disch:=omega) only [Ac,Bc],by simp (disch:=omega) only [Ac,Bc],Amr⟩
 have hnF:∀ k,k=36∨k=37→¬ (FE F n1 nw m (bd+2) (bd+3) (bd+4) (bd+k)∨bd+k=bd+40):=fun k hk h=>by
  rcases h with h | h
  ·unfold FE at h
   rcases h with h | h
   ·exact hFb k h
   ·omega
  ·omega
 have hc:=Bm6 hRd.yields rfl (Bo2 hv) (by rw [Q9]; omega) (by rw [Q9]; omega) (nr:=bd+33+3) (nk:=bd+33+4) (s:=((s,v0,true),none)) (bd:=bd+41) (os:=upd (osE os bd b yv) (bd+40) (some (.loop ⟨33,[10],A,B,.ready,none⟩ (tmE n1 (bd+2) (bd+3) (bd+4))))) (hnF 36 (.inl rfl)) (hnF 37 (.inr rfl)) (by simp (disch:=omega) only [Ac,Bc]) (by simp (disch:=omega) only [Ac,Bc]) ⟨rfl,hg⟩ ⟨hI0,Bc⟩
 cases (show some (_,_)=some (A,B) from hcode)
 refine Mg (bd:=bd+40) (tm:=tmE n1 (bd+2) (bd+3) (bd+4)) rfl (fun q hq=>by simp (disch:=omega) only [Ac]; exact hfree q (by omega)) (by simp only []; omega) rfl (by kernel_rfl) (fun i=>Aau (by simp (disch:=(first | assumption | omega)) only [amL,sF,↓reduceIte]) i) (Bbt (by simp (disch:=(first | assumption | omega)) only [amL,sF,↓reduceIte])) hc (fun res os2 hR hcl2=>?_)
 obtain ⟨rfl,hI2,hfr2⟩:=hR
 obtain ⟨e1,e2⟩:=Bl3 (b:=b) (step:=step) (Bha (Fy b) []) s v0 true
 have hfin:∀ X,Ac8 Try.prog [] (fun res os'=>res=.tup []∧I (Gb step s (Bhi b)).1 os'∧∀ n,¬ F n→os' n=os n) ⟨T (tmE n1 (bd+2) (bd+3) (bd+4)),upd os2 (bd+40) X⟩:=fun X=>by
  have hI3:=hI2.1.i
  rw [e1] at hI3
  have hd:=hY.drop (bd:=bd) hcl hfree hI hI3 (fun q hq1 hq2=>by
   by_cases c1:q=n1
   ·rw [c1,hI2.1.w1,o1]
   ·by_cases c2:q=nw
    ·rw [c2,hI2.1.wk.ow,ow]
    ·by_cases c3:q=m
     ·rw [c3,hI2.1.wk.om,om]
     ·rw [hfr2 q (fun h=>by
       rcases h with h | h
       ·unfold FE at h
        rcases h with h | h
        ·exact hq2 h
        ·omega
       ·omega)]
      simp (disch:=omega) only [Ac])
  exact A6 (res:=.tup []) (Du bd os2) rfl (fun n=>by
   by_cases e:n=bd+40
   ·left; rw [e]; exact Su (by omega)
   ·show Du bd os2 n=none∨Du bd os2 n=upd os2 (bd+40) X n
    rw [Ac e]; exact L6 bd os2 n) hd.1 (A9 _ rfl) ⟨rfl,hd.2.1,hd.2.2⟩
 rcases e2 with e2 | e2
 ·refine ⟨_,hI2.2,by rw [e2]; simp [],?_⟩
  rw [e2]
  exact hfin _
 ·refine ⟨_,hI2.2,by rw [e2]; simp [],?_⟩
  rw [e2]
  exact hfin _
theorem Bo5 (r:Rng) (n:Int) (first:Bool):Bv Try.prog 100 [avR r,i64 n,bl first] (avR (Bma r n first)):=by
  refine Bo (v:=[]) (q:=[]) (N:=21) (rs:=[.cell 6 53]) Try.func100 rfl rfl rfl rfl rfl ?_
  refine Ad fun K1 hK1=>?_
  simp (disch:=omega) only [amL,amT,sA,sB,sF,↓reduceIte]
  refine hK1 _ ?_
  refine Ab fun K2 hK2=>?_
  refine Ad fun K3 hK3=>?_
  simp (disch:=omega) only [amL,sA,sF,↓reduceIte,reduceCtorEq]
  refine hK3 _ ?_
  refine Al rfl (fun h=>MT.x ?_) (fun h=>ME.x ?_)
  all_goals
   first
   |refine MT.mk ?_
    first
    |exact Bool.noConfusion h
    |skip
     try simp only [nrm] at h
     refine Ad fun K4 hK4=>?_
     simp (disch:=omega) only [amL,amT,sA,sB,sE,sF,↓reduceIte,reduceCtorEq]
     refine hK4 _ ?_
     refine Aj ?_
     try simp (disch:=omega) only [amL,amT,sB,sF,↓reduceIte]
     all_goals first | (rw [show first=true by assumption]; rfl) | (rw [show first=false by assumption]; rfl) | trace_state
   |refine ME.mk ?_
    first
    |exact Bool.noConfusion h
    |skip
     try simp only [nrm] at h
     refine Am ?_
     refine hK2 _ ?_
  all_goals
   skip
   refine Ab fun K5 hK5=>?_
   refine Ch (by kernel_rfl) (by kernel_rfl) ?_
   simp (disch:=omega) only [amL,amT,sA,sB,sE,sF,↓reduceIte,reduceCtorEq]
   repeat' first | (refine Ax (by kernel_rfl) rfl (Y1 _ _) (by first | exact .inl rfl | exact .inr (.inl rfl)) ?_ ; simp (disch:=omega) only [amL,amT,sA,sB,sE,sF,↓reduceIte,reduceCtorEq])
   refine hK5 _ ?_
   refine Aj ?_
   try simp (disch:=omega) only [amL,amT,sB,sF,↓reduceIte]
   all_goals first | (rw [show first=true by assumption]; rfl) | (rw [show first=false by assumption]; rfl) | trace_state
theorem Bib {l:List Bnd} {k:Nat} (h:k < l.length):(l.map Bhm).getD k []=Bhm (l.getD k default):=by
  simp [List.getD,h]
theorem Bjw (x:Bnd):Bhm x=[iv x.g.lo,iv x.g.hi,iv x.e.lo,iv x.e.hi,iv x.k.lo,iv x.k.hi]:=rfl
theorem Bky {l:List Bnd} {i:Nat} {a b c d e f:Int}:(l.map Bhm).set i [iv a,iv b,iv c,iv d,iv e,iv f]=(l.set i ⟨⟨a,b⟩,⟨c,d⟩,⟨e,f⟩⟩).map Bhm:=(List.map_set (f:=Bhm) (a:=⟨⟨a,b⟩,⟨c,d⟩,⟨e,f⟩⟩)).symm
theorem Bov {x:List Liq} {i:Nat} (h:i < x.length):(if 2≤(List.drop (i * 2) (cW x)).length then some (AV.agg (List.take 2 (List.drop (i * 2) (cW x)))) else none)=some (.agg [i64 (x.getD i default).g,i64 (x.getD i default).e]):=by
  rw [Cb h]; simp
def Bke (v:List Liq) (f:Bool) (l:List Bnd):Nat→List Bnd
  | 0=>l
  | i+1=>(Bke v f l i).set i (Bpk ((Bke v f l i).getD i default) (v.getD i default) (Q7 (v.getD i default)) f)
theorem Bix {v:List Liq} {f:Bool} {l:List Bnd}:∀ i,(Bke v f l i).length=l.length
  | 0=>rfl
  | i+1=>by simp only [Bke,List.length_set]; exact Bix i
abbrev tmB (n5 n6:Nat):List (Nat × AV):=[(5,.ptr n5 0),(6,.ptr n6 0)]
structure BnI (n n5 n6 nA:Nat) (s:List Bnd × Bool) (os:Nat→Option AO):Prop where
  o:os n5=some (.cells [.own nA n])
  a:os nA=some (.arr 6 (s.1.map Bhm))
  f:os n6=some (.cells [bl s.2])
  len:s.1.length=n
def Bkg (n:Nat) (s:List Bnd × Bool) (v:List Liq):(List Bnd × Bool) × Option Code:=((Bke v s.2 s.1 n,false),none)
theorem Bo8 {o1 X:Nat→Option AO} {nA bdL b7:Nat} {LP:Option AO} {es:List (List PV)} {c:List AV} (h1:b7≠nA) (h2:b7≠bdL) (h3:nA≠bdL) (x7:X b7=some (.cells c)) (xA:X nA=some (.arr 6 es)) (xL:X bdL=LP) (hX:∀ q,q≠b7→q≠nA→q≠bdL→X q=o1 q):Sub (upd (upd (upd o1 bdL LP) nA (some (.arr 6 es))) b7 (some (.cells c))) X:=fun q=>by
  right
  by_cases e7:q=b7
  · subst e7; rw [Bc,x7]
  · by_cases eA:q=nA
    · subst eA; rw [Ac e7,Bc,xA]
    · by_cases eL:q=bdL
      · subst eL; rw [Ac e7,Ac eA,Bc,xL]
      · rw [Ac e7,Ac eA,Ac eL,hX q e7 eA eL]
theorem Bni {L:List (List Liq)} {n n5 n6 nA bdL:Nat} (hn:n≤4) (hL:∀ v ∈ L,OkV v) (d1:n5 < n6) (d2:n6 < nA) (d3:nA < bdL) {A B:Code} (hcode:(Try.f41.body.bind Nl)=some (A,B)) :
    Zu Try.prog bdL ⟨67,[22],A,B,.ready,none⟩ (tmB n5 n6) [] [] (fun q=>q=n5∨q=n6∨q=nA) avW L (BnI n n5 n6 nA) (Bkg n) where
  ready:=rfl
  lenp:=rfl
  psn q hq:=by
    simp only [List.mem_cons,List.not_mem_nil,or_false] at hq
    subst hq; exact (by decide:22 < 67)
  notF h:=by omega
  tmF q hq:=by
    simp [AO.clean,AV.clean,AV.clean.cleanL] at hq
    omega
  stable s o1 o2 hI he:=⟨(he n5 (by omega)).trans hI.o,(he nA (by omega)).trans hI.a,(he n6 (by omega)).trans hI.f,hI.len⟩
  foot s o1 q hI hq:=by
    rcases hq with rfl | rfl | rfl
    · exact ⟨_,hI.o,fun m hm=>by simp [AO.clean,AV.clean,AV.clean.cleanL] at hm; omega⟩
    · exact ⟨_,hI.f,fun m hm=>by simp [AO.clean,AV.clean,AV.clean.cleanL] at hm⟩
    · exact ⟨_,hI.a,fun m hm=>by simp [AO.clean] at hm⟩
  body s x o1 bd1 hx hI hl hcl1 hfree1 hb1 rl:=by
    obtain ⟨l,f⟩:=s
    obtain ⟨a5,aA,a6,hlen⟩:=hI
    dsimp only at aA a6 hlen
    have hok:=hL x hx
    have hx4:=hok.len
    have hsm:=hok.small
    have hfr0:∀ k,o1 (bd1+k)=none:=fun k=>hfree1 _ (by omega)
    obtain ⟨LP,hLP⟩:∃ LP:Option AO,LP=some (.loop ⟨67,[22],A,B,.busy,none⟩ (tmB n5 n6)):=⟨_,rfl⟩
    have b5:=Ap hfree1 a5
    have b6:=Ap hfree1 a6
    have bA:=Ap hfree1 aA
    have hclL:∀ {os:Nat→Option AO} {kk:F1},(Hp os).closed→(os n5).isSome=true→(os n6).isSome=true→(Hp (upd os bdL (some (.loop kk (tmB n5 n6))))).closed:=fun {os kk} hc h1 h2=>Cr hc (fun q hq=>by
      have e:q=n5∨q=n6:=by
        simp [AO.clean,AV.clean,AV.clean.cleanL] at hq; omega
      unfold upd
      split
      · rfl
      · rcases e with e | e <;> rw [e] <;> assumption)
    have hcl2:(Hp (upd o1 bdL LP)).closed:=by rw [hLP]; exact hclL hcl1 (by rw [a5]; rfl) (by rw [a6]; rfl)
    cases (show some (_,_)=some (A,B) from hcode)
    show AWP _ _ 67 _ ⟨T [(22,avW x),(5,.ptr n5 0),(6,.ptr n6 0)],o1⟩ _
    refine Ah ?_
    simp (disch:=(first | assumption | omega)) only [hl,hfr0,Ac,Bz,A0,Aio,amL,amT,sA,sB,sF,↓reduceIte]
    try simp (disch:=(first | assumption | omega)) only [hl,hfr0,Ac,Bz,Br,A0,Aio,amL,amT,sA,sB,sC,sD,sE,sF,sG,sH,sI,sJ,sK,sL,sM,sN,sO,↓reduceIte,reduceCtorEq]
    skip
    refine Ar ?_
    refine Ab fun K1 hK1=>?_
    refine Ad fun K2 hK2=>?_
    simp (disch:=(first | assumption | omega)) only [a5,Ac,amL,amT,sA,sF,↓reduceIte]
    refine hK2 _ ?_
    refine Ar ?_
    rw [← hLP]
    refine Bg (α:=Nat) (fun i=>⟨T [(5,.ptr n5 0),(6,.ptr n6 0),(7,.ptr (bd1+7) 0),(24,i64 (n:Int)),(25,i64 (i:Int))],upd (upd (upd o1 bdL LP) nA (some (.arr 6 ((Bke x f l i).map Bhm)))) (bd1+7) (some (.cells (cW x)))⟩) (fun i=>n - i) (fun i=>i≤n) 0 ?_ ?_ (fun i hx3 K3 hK3=>?_)
    · exact Nat.zero_le _
    · refine Hd ?_ ?_ ?_ ?_ <;> (try simp (disch:=(first | assumption | omega)) only [a5,a6,Ac,amL,sF,↓reduceIte]); all_goals first | exact Ec (Nc hcl2) | exact Bo8 (by omega) (by omega) (by omega) (by simp (disch:=omega) only [Ac,Bc]) (by simp (disch:=omega) only [Ac] ; first | done | rfl | exact aA) (by simp (disch:=omega) only [Bc]) (fun q h1 h2 h3=>by simp (disch:=omega) only [Ac]) | trace_state
    have hi:=hx3; have hbl:=Bix (v:=x) (f:=f) (l:=l) i
    refine Ad fun K4 hK4=>?_
    simp (disch:=(first | assumption | omega)) only [amL,amT,sA,sF,↓reduceIte]
    refine hK4 _ ?_
    refine Ab fun K5 hK5=>?_
    refine Al rfl (fun h=>MT.x ?_) (fun h=>ME.x ?_)
    all_goals
     first
     |refine MT.mk ?_
      first
      |exact Bool.noConfusion h
      |skip
       try simp only [nrm] at h
       refine Am ?_
       refine hK5 _ ?_
     |refine ME.mk ?_
      first
      |exact Bool.noConfusion h
      |skip
       try simp only [nrm] at h
       refine Bq ?_
       refine hK1 _ ?_
       refine Ah ?_
       simp (disch:=(first | assumption | omega)) only [a6,Ac,Wq,amL,amT,sF,↓reduceIte]
       try simp (disch:=(first | assumption | omega)) only [a5,aA,a6,hl,hfr0,Ac,Bz,Br,A0,Ka,Jo,Ld,Bov,Bib,Bjw,Bky,Vg,Wq,Af7,amL,amT,sA,sB,sC,sD,sE,sF,sG,sH,sI,sJ,sK,sL,sM,sN,sO,↓reduceIte,reduceCtorEq]
       first
         | (obtain rfl:i=n:=by omega
            refine Qb (upd (upd (upd o1 nA (some (.arr 6 ((Bke x f l i).map Bhm)))) n6 (some (.cells [bl false]))) bdL (some (.loop (Al1 _ none) (tmB n5 n6)))) (by simp (disch:=omega) only [Ac,Bc]; exact hLP) (fun z=>?_) (hclL (F7 (Nc hcl1) (by simp [AV.isP])) (by simp (disch:=omega) only [Ac]; rw [a5]; rfl) (by rw [Bc]; rfl)) ⟨rfl,⟨⟨by simp (disch:=omega) only [Ac]; exact a5,by simp (disch:=omega) only [Ac,Bc]; rfl,by simp (disch:=omega) only [Ac,Bc]; rfl,hbl.trans hlen⟩,by rw [Bc]; rfl⟩,fun q hq=>by simp (disch:=omega) only [Ac]⟩
            by_cases e1:z=bdL
            · subst e1; right; rw [Bc,Bc] ; first | done | rfl
            · by_cases e2:z=n6
              · subst e2; right; simp (disch:=omega) only [Ac,Bc]
              · by_cases e3:z=nA
                · subst e3; right; simp (disch:=omega) only [Ac,Bc]
                · by_cases e4:z=bd1+7
                  · left; subst e4; simp (disch:=omega) only [Ac]; exact hfr0 7
                  · right; simp (disch:=omega) only [Ac])
         | trace_state
    all_goals
     skip
     refine Ab fun K6 hK6=>?_
     refine Ar ?_
     refine Ad fun K7 hK7=>?_
     simp (disch:=(first | assumption | omega)) only [amL,sA,sF,↓reduceIte]
     refine hK7 _ ?_
     refine Ad fun K8 hK8=>?_
     simp (disch:=(first | assumption | omega)) only [a5,Ac,amL,amT,sA,sF,↓reduceIte]
     refine hK8 _ ?_
     refine Ch (by kernel_rfl) (by kernel_rfl) ?_
     simp (disch:=(first | assumption | omega)) only [a6,Ac,Jo,Bib,Bjw,amL,amT,sA,sB,sE,sF,sH,↓reduceIte,reduceCtorEq]
     repeat' first | (refine Ax (by kernel_rfl) rfl (Bo5 _ _ _) (by first | exact .inl rfl | exact .inr (.inl rfl)) ?_ ; simp (disch:=(first | assumption | omega)) only [a6,Ac,Ld,Bov,Bib,Bjw,Bky,amL,amT,sA,sB,sE,sF,sH,↓reduceIte,reduceCtorEq]) | (refine Ax (by kernel_rfl) rfl (Yw _ (hsm i)) (by first | exact .inl rfl | exact .inr (.inl rfl)) ?_ ; simp (disch:=(first | assumption | omega)) only [a6,Ac,amL,amT,sA,sF,↓reduceIte])
     refine hK6 _ ?_
     refine Ah ?_
     simp (disch:=(first | assumption | omega)) only [amL,amT,sA,sF,↓reduceIte]
     refine hK3 (i+1) _ ?_ ?_ (Hd ?_ ?_ ?_ ?_)
     all_goals (try simp (disch:=(first | assumption | omega)) only [a5,a6,Ac,amL,sF,↓reduceIte])
     all_goals first | omega | exact Ec (Nc hcl2) | exact Bo8 (by omega) (by omega) (by omega) (by simp (disch:=omega) only [Ac,Bc]) (by simp (disch:=omega) only [Bc] ; first | done | rfl | exact aA) (by simp (disch:=omega) only [Ac,Bc]) (fun q h1 h2 h3=>by simp (disch:=omega) only [Ac]) | trace_state
theorem Bos {r:RB} {N:Nat} {s:St} {K:St→Prop} {d:Nat} {ty:TypeId} {pos:String} {after:Array Edge} {g:Option (Nat × Bool)} {l c:Operand}:EO Try.prog r N ⟨some d,.makeSlice 115 l c,ty,pos,after,g⟩ s K=EOp r.b N (some d) s K (fMk 6 48 [iv 0,iv 0,iv 0,iv 0,iv 0,iv 0] (r.b+d) (ev s.t l) (ev s.t c)):=
  Bpl (e:=139) (z:=[.int .i64 0,.int .i64 0,.int .i64 0,.int .i64 0,.int .i64 0,.int .i64 0]) (by simp only [amT]) (by simp only [amT]) (by simp only [amT]) (by simp only [amT]) (by decide) rfl (by decide) (by simp only [amT]; rfl)
theorem Bpr {d n:Nat} (h:n≤4):fMk 6 48 [iv 0,iv 0,iv 0,iv 0,iv 0,iv 0] d (i64 (n:Int)) (i64 (n:Int))=some (.new (.arr 6 ((List.replicate n (default:Bnd)).map Bhm)) (.own d n)):=by
  rw [List.map_replicate]
  show (if (n:Int)=(n:Int)∧0≤(n:Int)∧(n:Int)≤4611686018427387904∧((48:Nat):Int) * (n:Int)≤281474976710656 then some (Eff.new (AO.arr 6 (List.replicate (n:Int).toNat [iv 0,iv 0,iv 0,iv 0,iv 0,iv 0])) (AV.own d (n:Int).toNat)) else none)=_
  rw [if_pos ⟨rfl,by omega,by omega,by omega⟩,Int.toNat_natCast]; rfl
def Blz (n:Nat) (s:List Bnd × Bool) (l:List (List Liq)):List Bnd × Bool:=l.foldl (fun s v=>(Bkg n s v).1) s
theorem Boj {n:Nat}:∀ (l:List (List Liq)) (s:List Bnd × Bool),(Gb (fun (s:(List Bnd × Bool) × Option Code) x=>(Bkg n s.1 x,(Bkg n s.1 x).2.isNone)) (s,none) l).1=(Blz n s l,none)
  | [],s=>rfl
  | x :: l,s=>by
    show (if (Bkg n s x).2.isNone=true then Gb _ (Bkg n s x) l else _).1=_
    rw [if_pos (show (Bkg n s x).2.isNone=true from rfl)]
    exact Boj l (Bkg n s x).1
def Bhp (b:Ed):AV:=
  if B5 b=0 then match Blz b.vs.length (List.replicate b.vs.length default,true) (Bhi b) with
    | (_,true)=>.tup [C4,i64 9]
    | (l,false)=>.tup [.p (.sl (l.map Bhm)),i64 0]
  else .tup [C4,i64 (B5 b)]
theorem Blq (b:Ed):(Bhp b).isP=true:=by
  unfold Bhp; split
  · split <;> rfl
  · rfl
theorem Bih {b:Ed} {P:List Liq→Prop}:∀ (l:List (List Int)) (last:List Liq) (first:Bool),(∀ x ∈ l,Bhv b x=true→P (Bhe b x))→∀ v ∈ Bii b last first l,P v
  | [],_,_,_,v,hv=>by cases hv
  | x :: l,last,first,h,v,hv=>by
    unfold Bii at hv
    split at hv
    · exact Bih l _ _ (fun y hy=>h y (by simp [hy])) v hv
    · rename_i hC
      rcases List.mem_cons.1 hv with rfl | hv
      · refine h x (by simp) ?_
        cases he:Bhv b x with
        | true=>rfl
        | false=>exact absurd (.inl he) hC
      · exact Bih l _ _ (fun y hy=>h y (by simp [hy])) v hv
theorem Bh9 {b:Ed} {x:List Int}:∀ (l:List (List Int)) (last:List Liq) (first:Bool),x ∈ l→Bhv b x=true→Bhe b x ∈ Bii b last first l∨(first=false∧Bhe b x=last)
  | [],_,_,h,_=>by cases h
  | y :: l,last,first,h,he=>by
    unfold Bii
    split
    · rename_i hC
      rcases List.mem_cons.1 h with rfl | h
      · rcases hC with hC | hC
        · rw [he] at hC; cases hC
        · exact .inr hC
      · exact Bh9 l last first h he
    · rcases List.mem_cons.1 h with rfl | h
      · exact .inl (List.mem_cons_self ..)
      · rcases Bh9 l (Bhe b y) false h he with h1 | h1
        · exact .inl (List.mem_cons_of_mem _ h1)
        · left; rw [h1.2]; exact List.mem_cons_self ..
theorem Bll (b:Ed) (hl:b.vs.length < 1000000) (hl2:b.ss.length < 1000000):Bv Try.prog 41 [avB b] (Bhp b):=by
  refine Aj6 (v:=[61,94]) (q:=[]) (N:=67) (rs:=[.tmp 2,.tmp 3]) Try.func41 rfl rfl rfl rfl (Blq b) ?_
  obtain ⟨A,B,hcode⟩:∃ A B,(Try.f41.body.bind Nl)=some (A,B):=⟨_,_,rfl⟩
  refine Lj fun K1 hK1=>?_
  refine Ah ?_
  simp (disch:=(first | assumption | omega)) only [amL,sA,↓reduceIte]
  refine hK1 _ ?_
  refine Lj fun K2 hK2=>?_
  refine Ad fun K3 hK3=>?_
  simp (disch:=(first | assumption | omega)) only [amL,amT,sA,sB,sF,sG,↓reduceIte]
  repeat' first | (refine Ax (by kernel_rfl) rfl (Agg b hl hl2) (by first | exact .inl rfl | exact .inr (.inl rfl)) ?_ ; simp (disch:=(first | assumption | omega)) only [amL,sA,↓reduceIte])
  refine hK3 _ ?_
  refine Ad fun K4 hK4=>?_
  simp (disch:=(first | assumption | omega)) only [ne_eq,amL,amT,sA,↓reduceIte]
  refine hK4 _ ?_
  refine Al rfl (fun h=>MT.x ?_) (fun h=>ME.x ?_)
  all_goals
   first
   |refine MT.mk ?_
    first
    |exact Bool.noConfusion h
    |skip
     try simp only [nrm] at h
     refine Ad fun K5 hK5=>?_
     simp (disch:=(first | assumption | omega)) only [amL,sA,sF,↓reduceIte]
     refine hK5 _ ?_
     refine Aj ?_
     try simp (disch:=(first | assumption | omega)) only [amL,sF,↓reduceIte]
     first
       | (unfold Bhp; rw [if_neg (by assumption)]; done)
       | (unfold Bhp; rw [if_pos (by omega),hb,show f2=true by assumption]; done)
       | (have hl2:b.vs.length≤(l2.map Bhm).length:=by rw [List.length_map]; omega
          unfold Bhp; rw [if_pos (by omega),hb,show f2=false by assumption,qA,Arg,if_pos hl2,List.take_of_length_le (by rw [List.length_map]; omega)]; rfl)
       | trace_state
   |refine ME.mk ?_
    first
    |exact Bool.noConfusion h
    |skip
     try simp only [nrm] at h
     refine Am ?_
     refine hK2 _ ?_
  all_goals
   skip
   refine Lj fun K6 hK6=>?_
   refine Ah ?_
   have hf0:B5 b=0:=by omega
   have hval:=Aa9 hf0
   have hnv:=hval.nv
   simp (disch:=(first | assumption | omega)) only [Bos,Bpr,amL,amT,sA,sF,↓reduceIte,reduceCtorEq]
   refine hK6 _ ?_
   refine Lj fun K7 hK7=>?_
   refine Ah ?_
   simp (disch:=(first | assumption | omega)) only [amL,amT,sA,sF,↓reduceIte]
   refine hK7 _ ?_
   refine Aer fun K8 hK8=>?_
   refine Lj fun K9 hK9=>?_
   refine Ah ?_
   simp (disch:=(first | assumption | omega)) only [amL,amT,sA,sB,sF,sG,↓reduceIte]
   refine A2 [(5,.ptr 5 0),(6,.ptr 6 0)] (by decide) (Dp (b:=b) (bd:=67)) (Lg rfl) (by decide) (fun res os2 hR hcl2 hlv2=>?_)
   obtain ⟨rfl,rfl⟩:=hR
   simp (disch:=(first | assumption | omega)) only [amL,sB,sF,sG,↓reduceIte]
   refine A2 [(5,.ptr 5 0),(6,.ptr 6 0)] (by decide) (Bnp (nw:=73) (bd:=80) rfl) (Lg rfl) (by decide) (fun res os2 hR hcl3 hlv3=>?_)
   obtain ⟨rfl,rfl⟩:=hR
   simp (disch:=(first | assumption | omega)) only [amL,sB,sF,↓reduceIte]
   refine hK9 _ ?_
   refine Vi ?_
   have hLk:∀ v ∈ Bhi b,OkV v:=Bih (P:=OkV) _ _ _ (fun x hx he=>(Amw hval (Bh3 hx)).2 he)
   have hRd:=Bni (L:=Bhi b) (n:=b.vs.length) (n5:=5) (n6:=6) (nA:=18) (bdL:=82) hnv hLk (by decide) (by decide) (by decide) hcode
   have hmem:∀ x ∈ Bha (Fy b) [],Bhv b x=true→Bhe b x ∈ Bhi b:=fun x hx he=>by
     rcases Bh9 (b:=b) _ v0 true hx he with h | h
     · exact h
     · exact absurd h.1 (by decide)
   have hc:=Bmq (b:=b) (F:=fun q=>(q=5∨q=6∨q=18)∨q=82) hRd.yields rfl hmem hval (fun q hq=>by
     simp only [AV.clean,bne_eq_false_iff_eq] at hq
     exact .inr hq.symm) (n1:=81) (nw:=73) (m:=71) (by decide) (by decide) (by decide) (s:=((List.replicate b.vs.length default,true),none)) (bd:=83) (os:=O [(82,.loop ⟨67,[22],A,B,.ready,none⟩ (tmB 5 6)),(81,.cells [.ptr 73 0]),(73,.cells [.p (slV b.vs),.p (slS b.ss),.mp 71]),(71,.obj (F9 14 (Sx b.vs))),(6,.cells [bl true]),(6,.cells [bl false]),(5,.cells [.own 18 b.vs.length]),(5,.cells [C4]),(18,.arr 6 ((List.replicate b.vs.length default).map Bhm)),(1,.cells (cB b))]) rfl ⟨rfl,rfl⟩ rfl ⟨⟨rfl,rfl,rfl,List.length_replicate⟩,rfl⟩
   cases (show some (_,_)=some (A,B) from hcode)
   refine Mg (bd:=82) (tm:=tmB 5 6) rfl (Lg rfl) (by decide) rfl (by kernel_rfl) (fun i=>Aau (by simp (disch:=(first | assumption | omega)) only [amL,sF,↓reduceIte]) i) (Bbt (by simp (disch:=(first | assumption | omega)) only [amL,sF,↓reduceIte])) hc (fun res os2 hR hcl2=>?_)
   obtain ⟨rfl,hI2,hfr2⟩:=hR
   rw [Boj] at hI2
   generalize hb:Blz b.vs.length (List.replicate b.vs.length default,true) (Bhi b)=bb at hI2
   obtain ⟨l2,f2⟩:=bb
   obtain ⟨⟨q5,qA,q6,qn⟩,q7⟩:=hI2
   dsimp only at q5 qA q6 qn q7
   refine ⟨_,q7,by simp [],?_⟩
   show Lf 0 _ .normal _
   simp only [Pa,Qq]
   refine hK8 _ ?_
   refine Lj fun K10 hK10=>?_
   refine Ad fun K11 hK11=>?_
   simp (disch:=(first | assumption | omega)) only [q6,Ac,amL,amT,sA,sF,↓reduceIte]
   refine hK11 _ ?_
   refine Al rfl (fun h=>MT.x ?_) (fun h=>ME.x ?_)
   all_goals
    first
    |refine MT.mk ?_
     first
     |exact Bool.noConfusion h
     |skip
      try simp only [nrm] at h
      refine Ad fun K12 hK12=>?_
      simp (disch:=(first | assumption | omega)) only [amL,sA]
      refine hK12 _ ?_
      refine Aj ?_
      try simp (disch:=(first | assumption | omega)) only [amL,sF,↓reduceIte]
      first
        | (unfold Bhp; rw [if_neg (by assumption)]; done)
        | (unfold Bhp; rw [if_pos (by omega),hb,show f2=true by assumption]; done)
        | (have hl2:b.vs.length≤(l2.map Bhm).length:=by rw [List.length_map]; omega
           unfold Bhp; rw [if_pos (by omega),hb,show f2=false by assumption,qA,Arg,if_pos hl2,List.take_of_length_le (by rw [List.length_map]; omega)]; rfl)
        | trace_state
    |refine ME.mk ?_
     first
     |exact Bool.noConfusion h
     |skip
      try simp only [nrm] at h
      refine Am ?_
      refine hK10 _ ?_
   all_goals
    skip
    refine Lj fun K13 hK13=>?_
    refine Ah ?_
    simp (disch:=(first | assumption | omega)) only [q5,Ac,amL,amT,sA,sF,↓reduceIte]
    refine hK13 _ ?_
    refine Dz ?_
    refine Aj ?_
    try simp (disch:=(first | assumption | omega)) only [Ac,amL,sF,↓reduceIte]
    first
      | (unfold Bhp; rw [if_neg (by assumption)]; done)
      | (unfold Bhp; rw [if_pos (by omega),hb,show f2=true by assumption]; done)
      | (have hl2:b.vs.length≤(l2.map Bhm).length:=by rw [List.length_map]; omega
         unfold Bhp; rw [if_pos (by omega),hb,show f2=false by assumption,qA,Arg,if_pos hl2,List.take_of_length_le (by rw [List.length_map]; omega)]; rfl)
      | trace_state
theorem Bpt {x:List Liq} {i:Nat} (h:i < x.length):Ai true 2 (List.drop (i * 2) (cW x))=some (.agg [i64 (x.getD i default).g,i64 (x.getD i default).e]):=by
  rw [Cb h]; rfl
theorem Bny (v:List Liq) (r:Rdg) (hv:OkV v) (h0:0≤r.v) (h1:r.v < 4):Bv Try.prog 95 [avW v,avD r] (bl (Bh0 v r)):=by
  refine Bo (v:=[]) (q:=[]) (N:=23) (rs:=[.tmp 4]) Try.func95 rfl rfl rfl (by show ((avW v).isP&&((avD r).isP&&true))=true; rw [Asa]; rfl) rfl ?_
  have hv4:=hv.len
  have hsm:=hv.small
  obtain ⟨i,hi⟩:∃ i:Nat,r.v=i:=⟨r.v.toNat,by omega⟩
  have hti:r.v.toNat=i:=by omega
  refine Ad fun K1 hK1=>?_
  simp (disch:=(first | assumption | omega)) only [hi,amL,sA,sB,sF,↓reduceIte,reduceCtorEq]
  refine hK1 _ ?_
  refine Ab fun K2 hK2=>?_
  refine Ch (by kernel_rfl) (by kernel_rfl) ?_
  simp (disch:=(first | assumption | omega)) only [Int.toNat_natCast,Jo,amL,amT,sA,sB,sE,sF,sH,↓reduceIte,reduceCtorEq]
  repeat' first | (refine Eo (fun h=>?_) (fun h=>?_) <;> simp (disch:=(first | assumption | omega)) only [h,hi,hti,Int.toNat_natCast,Br,A0,Ka,Jo,Ld,Bov,Bpt,Vg,amL,amT,sA,sB,sC,sD,sE,sF,sG,sH,sI,sJ,sK,sL,sM,sN,sO,↓reduceIte,reduceCtorEq]) | (refine Cy (fun h=>?_) (fun h=>?_) <;> simp (disch:=(first | assumption | omega)) only [h,Int.toNat_natCast,Bov,amL,amT,sA,sB,sF,sH,↓reduceIte,reduceCtorEq]) | (refine Ax (by kernel_rfl) rfl (Agh _ _) (by first | exact .inl rfl | exact .inr (.inl rfl)) ?_ ; simp (disch:=(first | assumption | omega)) only [amL,sA,sF,↓reduceIte]) | (refine Ax (by kernel_rfl) rfl (Yw _ (hsm i)) (by first | exact .inl rfl | exact .inr (.inl rfl)) ?_ ; simp (disch:=(first | assumption | omega)) only [amL,sA,sF,↓reduceIte])
  all_goals
   skip
   refine hK2 _ ?_
   refine Aj ?_
   try simp (disch:=(first | assumption | omega)) only [amL,↓reduceIte]
   all_goals first | (unfold Bh0; rw [hti,show Jm r.g (v.getD i default).g=true by assumption,Bool.true_and]) | (unfold Bh0; rw [hti,show Jm r.g (v.getD i default).g=false by assumption,Bool.false_and]) | trace_state
def Bhy (x y:Int):Int:=if x < y then -1 else if y < x then 1 else 0
def Biv:List Int→List Int→Int
  | [],[]=>0
  | [],_ :: _=>-1
  | _ :: _,[]=>1
  | x :: a,y :: b=>if Bhy x y=0 then Biv a b else Bhy x y
theorem Bo6 (x:Int):Bv Try.prog 180 [i64 x] (bl false):=by
  refine Bo (v:=[]) (q:=[]) (N:=6) (rs:=[.tmp 2]) Try.func180 rfl rfl rfl rfl rfl ?_
  refine Ad fun K1 hK1=>?_
  simp (disch:=omega) only [decide_true,amL,sA]
  refine hK1 _ ?_
  refine Ad fun K2 hK2=>?_
  simp (disch:=omega) only [ne_eq,decide_false,decide_true,amL,amT,sA,sF,↓reduceIte,reduceCtorEq]
  refine hK2 _ ?_
  refine Aj ?_
  try simp (disch:=omega) only [amL,↓reduceIte]
  all_goals first | rfl | (simp; done) | trace_state
theorem Bpm (x y:Int):Bv Try.prog 144 [i64 x,i64 y] (i64 (Bhy x y)):=by
  refine Bo (v:=[]) (q:=[]) (N:=20) (rs:=[.tmp 4]) Try.func144 rfl rfl rfl rfl rfl ?_
  refine Ad fun K1 hK1=>?_
  simp (disch:=omega) only [amL,sA,sB]
  refine hK1 _ ?_
  refine Ad fun K2 hK2=>?_
  simp (disch:=omega) only [amL,sA,↓reduceIte,reduceCtorEq]
  repeat' first | (refine Ax (by kernel_rfl) rfl (Bo6 _) (by first | exact .inl rfl | exact .inr (.inl rfl)) ?_ ; simp (disch:=omega) only [amL,sA,↓reduceIte])
  refine hK2 _ ?_
  refine Ad fun K3 hK3=>?_
  simp (disch:=omega) only [amL,sA,sF,↓reduceIte,reduceCtorEq]
  repeat' first | (refine Ax (by kernel_rfl) rfl (Bo6 _) (by first | exact .inl rfl | exact .inr (.inl rfl)) ?_ ; simp (disch:=omega) only [amL,sA,↓reduceIte])
  refine hK3 _ ?_
  refine Ab fun K4 hK4=>?_
  refine Ad fun K5 hK5=>?_
  simp (disch:=omega) only [amL,sA,sF,↓reduceIte]
  refine hK5 _ ?_
  refine Al rfl (fun h=>MT.x ?_) (fun h=>ME.x ?_)
  all_goals
   first
   |refine MT.mk ?_
    first
    |exact Bool.noConfusion h
    |skip
     try simp only [nrm] at h
     refine Ab fun K6 hK6=>?_
     refine Ad fun K7 hK7=>?_
     simp (disch:=omega) only [amL,amT,sA,sB,sC,sD,sE,sF,sG,sH,sI,sJ,sK,sL,sM,sN,sO,↓reduceIte,reduceCtorEq]
     refine hK7 _ ?_
     refine Al rfl (fun h=>MT.x ?_) (fun h=>ME.x ?_)
     all_goals
      first
      |refine MT.mk ?_
       first
       |exact Bool.noConfusion h
       |skip
        try simp only [nrm] at h
        refine Ad fun K8 hK8=>?_
        simp (disch:=omega) only [amL,amT,sA,sB,sC,sD,sE,sF,sG,sH,sI,sJ,sK,sL,sM,sN,sO,↓reduceIte,reduceCtorEq]
        refine hK8 _ ?_
        refine Aj ?_
        try simp (disch:=omega) only [amL,amT,sA,sB,sC,sD,sE,sF,sG,sH,sI,sJ,sK,sL,sM,sN,sO,↓reduceIte,reduceCtorEq]
        all_goals first | (unfold Bhy; rw [if_pos (by omega)]; done) | (unfold Bhy; rw [if_neg (by omega),if_pos (by omega)]; done) | (unfold Bhy; rw [if_neg (by omega),if_neg (by omega)]; done) | trace_state
      |refine ME.mk ?_
       first
       |exact Bool.noConfusion h
       |skip
        try simp only [nrm] at h
        refine Am ?_
        refine hK6 _ ?_
     all_goals
      skip
      refine Ad fun K9 hK9=>?_
      simp (disch:=omega) only [amL,amT,sA,sB,sC,sD,sE,sF,sG,sH,sI,sJ,sK,sL,sM,sN,sO,↓reduceIte,reduceCtorEq]
      refine hK9 _ ?_
      refine Aj ?_
      try simp (disch:=omega) only [amL,amT,sA,sB,sC,sD,sE,sF,sG,sH,sI,sJ,sK,sL,sM,sN,sO,↓reduceIte,reduceCtorEq]
      all_goals first | (unfold Bhy; rw [if_pos (by omega)]; done) | (unfold Bhy; rw [if_neg (by omega),if_pos (by omega)]; done) | (unfold Bhy; rw [if_neg (by omega),if_neg (by omega)]; done) | trace_state
   |refine ME.mk ?_
    first
    |exact Bool.noConfusion h
    |skip
     try simp only [] at h
     refine Am ?_
     refine hK4 _ ?_
  all_goals
   skip
   refine Ab fun K10 hK10=>?_
   refine Ad fun K11 hK11=>?_
   simp (disch:=omega) only [amL,sA,sF,↓reduceIte]
   refine hK11 _ ?_
   refine Al rfl (fun h=>MT.x ?_) (fun h=>ME.x ?_)
   all_goals
    first
    |refine MT.mk ?_
     first
     |exact Bool.noConfusion h
     |skip
      try simp only [nrm] at h
      refine Ad fun K12 hK12=>?_
      simp (disch:=omega) only [amL,amT,sA,sB,sC,sD,sE,sF,sG,sH,sI,sJ,sK,sL,sM,sN,sO,↓reduceIte,reduceCtorEq]
      refine hK12 _ ?_
      refine Aj ?_
      try simp (disch:=omega) only [amL,amT,sA,sB,sC,sD,sE,sF,sG,sH,sI,sJ,sK,sL,sM,sN,sO,↓reduceIte,reduceCtorEq]
      all_goals first | (unfold Bhy; rw [if_pos (by omega)]; done) | (unfold Bhy; rw [if_neg (by omega),if_pos (by omega)]; done) | (unfold Bhy; rw [if_neg (by omega),if_neg (by omega)]; done) | trace_state
    |refine ME.mk ?_
     first
     |exact Bool.noConfusion h
     |skip
      try simp only [] at h
      refine Am ?_
      refine hK10 _ ?_
   all_goals
    skip
    refine Ab fun K13 hK13=>?_
    refine Ad fun K14 hK14=>?_
    simp (disch:=omega) only [amL,amT,sA,sF,↓reduceIte,reduceCtorEq]
    refine hK14 _ ?_
    refine Al rfl (fun h=>MT.x ?_) (fun h=>ME.x ?_)
    all_goals
     first
     |refine MT.mk ?_
      first
      |exact Bool.noConfusion h
      |skip
       try simp only [nrm] at h
       refine Ad fun K15 hK15=>?_
       simp (disch:=omega) only [amL,sA,sM]
       refine hK15 _ ?_
       refine Aj ?_
       try simp (disch:=omega) only [amL,sM,↓reduceIte]
       all_goals first | (unfold Bhy; rw [if_pos (by omega)]; done) | (unfold Bhy; rw [if_neg (by omega),if_pos (by omega)]; done) | (unfold Bhy; rw [if_neg (by omega),if_neg (by omega)]; done) | trace_state
     |refine ME.mk ?_
      first
      |exact Bool.noConfusion h
      |skip
       try simp only [nrm] at h
       refine Am ?_
       refine hK13 _ ?_
    all_goals
     skip
     refine Ab fun K16 hK16=>?_
     refine Ad fun K17 hK17=>?_
     simp (disch:=omega) only [amL,amT,sA,sF,↓reduceIte,reduceCtorEq]
     refine hK17 _ ?_
     refine Al rfl (fun h=>MT.x ?_) (fun h=>ME.x ?_)
     all_goals
      first
      |refine MT.mk ?_
       first
       |exact Bool.noConfusion h
       |skip
        try simp only [nrm] at h
        refine Ad fun K18 hK18=>?_
        simp (disch:=omega) only [amL,sA]
        refine hK18 _ ?_
        refine Aj ?_
        try simp (disch:=omega) only [amL,↓reduceIte]
        all_goals first | (unfold Bhy; rw [if_pos (by omega)]; done) | (unfold Bhy; rw [if_neg (by omega),if_pos (by omega)]; done) | (unfold Bhy; rw [if_neg (by omega),if_neg (by omega)]; done) | trace_state
      |refine ME.mk ?_
       first
       |exact Bool.noConfusion h
       |skip
        try simp only [nrm] at h
        refine Am ?_
        refine hK16 _ ?_
     all_goals
      skip
      refine Ad fun K19 hK19=>?_
      simp (disch:=omega) only [amL,sA]
      refine hK19 _ ?_
      refine Aj ?_
      try simp (disch:=omega) only [amL,↓reduceIte]
      all_goals first | (unfold Bhy; rw [if_pos (by omega)]; done) | (unfold Bhy; rw [if_neg (by omega),if_pos (by omega)]; done) | (unfold Bhy; rw [if_neg (by omega),if_neg (by omega)]; done) | trace_state
theorem Bk3 {l:List Int} {k:Nat} (h:k < l.length):l.drop k=l.getD k 0 :: l.drop (k+1):=Bjz 0 h
theorem Bif {a b:List Int} {k:Nat} (h1:k < a.length) (h2:k < b.length):Biv (a.drop k) (b.drop k)=if Bhy (a.getD k 0) (b.getD k 0)=0 then Biv (a.drop (k+1)) (b.drop (k+1)) else Bhy (a.getD k 0) (b.getD k 0):=by
  rw [Bk3 h1,Bk3 h2]; rfl
theorem Bi2 {a b:List Int} {k:Nat} (h1:k < a.length) (h2:b.length≤k):Biv (a.drop k) (b.drop k)=1:=by
  rw [Bk3 h1,List.drop_of_length_le h2]; rfl
theorem Bil {a b:List Int} {k:Nat} (h1:a.length≤k) (h2:k < b.length):Biv (a.drop k) (b.drop k)=-1:=by
  rw [Bk3 h2,List.drop_of_length_le h1]; rfl
theorem Bi0 {a b:List Int} {k:Nat} (h1:a.length≤k) (h2:b.length≤k):Biv (a.drop k) (b.drop k)=0:=by
  rw [List.drop_of_length_le h1,List.drop_of_length_le h2]; rfl
theorem Bm8 (a b:List Int) (ha:a.length < 1000000) (_:b.length < 1000000):Bv Try.prog 96 [isl a,isl b] (i64 (Biv a b)):=by
  refine Bo (v:=[]) (q:=[]) (N:=36) (rs:=[.tmp 4]) Try.func96 rfl rfl rfl rfl rfl ?_
  refine Ad fun K1 hK1=>?_
  simp (disch:=omega) only [amL,sA,sB]
  refine hK1 _ ?_
  refine Ab fun K2 hK2=>?_
  refine Ad fun K3 hK3=>?_
  simp (disch:=omega) only [amL,amT,sA,↓reduceIte,reduceCtorEq]
  refine hK3 _ ?_
  refine Ar ?_
  skip
  refine Bg (α:=Nat) (fun k=>⟨T [(0,isl a),(1,isl b),(9,isl a),(10,i64 a.length),(11,i64 (k:Int))],O []⟩) (fun k=>a.length - k) (fun k=>k≤a.length∧k≤b.length∧Biv (a.drop k) (b.drop k)=Biv a b) 0 ?_ ?_ (fun k hx4 K4 hK4=>?_)
  · exact ⟨Nat.zero_le _,Nat.zero_le _,rfl⟩
  · refine Df ?_ ?_ ?_ ?_ <;> (try simp (disch:=omega) only [amL,sF,↓reduceIte,reduceCtorEq]); all_goals first | rfl | trace_state
  obtain ⟨hk1,hk2,hk3⟩:=hx4
  refine Ad fun K5 hK5=>?_
  simp (disch:=omega) only [amL,amT,sA,sF,↓reduceIte,reduceCtorEq]
  refine hK5 _ ?_
  refine Ab fun K6 hK6=>?_
  refine Al rfl (fun h=>MT.x ?_) (fun h=>ME.x ?_)
  all_goals
   first
   |refine MT.mk ?_
    first
    |exact Bool.noConfusion h
    |skip
     try simp only [nrm] at h
     refine Am ?_
     refine hK6 _ ?_
   |refine ME.mk ?_
    first
    |exact Bool.noConfusion h
    |skip
     try simp only [nrm] at h
     refine Bq ?_
     refine hK2 _ ?_
     refine Ab fun K7 hK7=>?_
     refine Ad fun K8 hK8=>?_
     simp (disch:=omega) only [amL,amT,sA,sF,↓reduceIte,reduceCtorEq]
     refine hK8 _ ?_
     refine Al rfl (fun h=>MT.x ?_) (fun h=>ME.x ?_)
     all_goals
      first
      |refine MT.mk ?_
       first
       |exact Bool.noConfusion h
       |skip
        try simp only [nrm] at h
        refine Ad fun K9 hK9=>?_
        simp (disch:=omega) only [amL,sA,sM]
        refine hK9 _ ?_
        refine Aj ?_
        try simp (disch:=omega) only [amL,sM,↓reduceIte]
        all_goals first | (rw [← hk3,Bi2 (by omega) (by omega)]; done) | (rw [← hk3,Bil (by omega) (by omega)]; done) | (rw [← hk3,Bi0 (by omega) (by omega)]; done) | (rw [← hk3,Bif (k:=k) (by omega) (by omega),if_neg (by omega)]; done) | trace_state
      |refine ME.mk ?_
       first
       |exact Bool.noConfusion h
       |skip
        try simp only [nrm] at h
        refine Am ?_
        refine hK7 _ ?_
     all_goals
      skip
      refine Ad fun K10 hK10=>?_
      simp (disch:=omega) only [amL,sA]
      refine hK10 _ ?_
      refine Aj ?_
      try simp (disch:=omega) only [amL,↓reduceIte]
      all_goals first | (rw [← hk3,Bi2 (by omega) (by omega)]; done) | (rw [← hk3,Bil (by omega) (by omega)]; done) | (rw [← hk3,Bi0 (by omega) (by omega)]; done) | (rw [← hk3,Bif (k:=k) (by omega) (by omega),if_neg (by omega)]; done) | trace_state
  all_goals
   skip
   refine Ab fun K11 hK11=>?_
   refine Ar ?_
   refine Ad fun K12 hK12=>?_
   simp (disch:=omega) only [Bm,amL,amT,sA,sF,↓reduceIte,reduceCtorEq]
   refine hK12 _ ?_
   refine Ab fun K13 hK13=>?_
   refine Ad fun K14 hK14=>?_
   simp (disch:=omega) only [amL,amT,sA,sF,↓reduceIte,reduceCtorEq]
   refine hK14 _ ?_
   refine Al rfl (fun h=>MT.x ?_) (fun h=>ME.x ?_)
   all_goals
    first
    |refine MT.mk ?_
     first
     |exact Bool.noConfusion h
     |skip
      try simp only [nrm] at h
      refine Ad fun K15 hK15=>?_
      simp (disch:=omega) only [amL,sA]
      refine hK15 _ ?_
      refine Aj ?_
      try simp (disch:=omega) only [amL,↓reduceIte]
      all_goals first | (rw [← hk3,Bi2 (by omega) (by omega)]; done) | (rw [← hk3,Bil (by omega) (by omega)]; done) | (rw [← hk3,Bi0 (by omega) (by omega)]; done) | (rw [← hk3,Bif (k:=k) (by omega) (by omega),if_neg (by omega)]; done) | trace_state
    |refine ME.mk ?_
     first
     |exact Bool.noConfusion h
     |skip
      try simp only [nrm] at h
      refine Am ?_
      refine hK13 _ ?_
   all_goals
    skip
    refine Ad fun K16 hK16=>?_
    simp (disch:=omega) only [Bm,amL,amT,sA,sF,↓reduceIte,reduceCtorEq]
    refine hK16 _ ?_
    refine Ad fun K17 hK17=>?_
    simp (disch:=omega) only [amL,sA,sF,↓reduceIte]
    repeat' first | (refine Ax (by kernel_rfl) rfl (Bpm _ _) (by first | exact .inl rfl | exact .inr (.inl rfl)) ?_ ; simp (disch:=omega) only [amL,sA,↓reduceIte])
    refine hK17 _ ?_
    refine Ad fun K18 hK18=>?_
    simp (disch:=omega) only [ne_eq,amL,amT,sA,↓reduceIte]
    refine hK18 _ ?_
    refine Al rfl (fun h=>MT.x ?_) (fun h=>ME.x ?_)
    all_goals
     first
     |refine MT.mk ?_
      first
      |exact Bool.noConfusion h
      |skip
       try simp only [nrm] at h
       refine Ad fun K19 hK19=>?_
       simp (disch:=omega) only [amL,sA,sF,↓reduceIte]
       refine hK19 _ ?_
       refine Aj ?_
       try simp (disch:=omega) only [amL,↓reduceIte]
       all_goals first | (rw [← hk3,Bi2 (by omega) (by omega)]; done) | (rw [← hk3,Bil (by omega) (by omega)]; done) | (rw [← hk3,Bi0 (by omega) (by omega)]; done) | (rw [← hk3,Bif (k:=k) (by omega) (by omega),if_neg (by omega)]; done) | trace_state
     |refine ME.mk ?_
      first
      |exact Bool.noConfusion h
      |skip
       try simp only [nrm] at h
       refine Am ?_
       refine hK11 _ ?_
    all_goals
     skip
     refine Ah ?_
     simp (disch:=omega) only [amL,amT,sA,sF,↓reduceIte,reduceCtorEq]
     refine hK4 (k+1) _ ?_ ?_ (Df ?_ ?_ ?_ ?_)
     all_goals (try simp (disch:=omega) only [amL,sF,↓reduceIte,reduceCtorEq])
     all_goals first | omega | exact ⟨by omega,by omega,by rw [← hk3,Bif (k:=k) (by omega) (by omega),if_pos (by omega)]⟩ | trace_state
theorem sfD:Ms Try.prog 113 112 210 3 4 176 140:=⟨⟨_,Try.func176,rfl,rfl,rfl,by kernel_rfl⟩,⟨_,Try.func140,rfl,rfl,rfl,by kernel_rfl⟩⟩
theorem afD:Ak5 Try.prog 113 112 210 4 140 141 93:=⟨⟨_,Try.func141,rfl,rfl,rfl,by kernel_rfl⟩,⟨_,Try.func93,rfl,rfl,rfl,by kernel_rfl⟩⟩
theorem Bpc {b:Ed} {r:Rdg} {n2:Nat} {os:Nat→Option AO} {bd:Nat} (hb:b.vs.length < 1000000) (o2:os n2=some (.cells (cB b))) :
    Bh Try.prog bd (.fn (.func 91) [] [.ptr n2 0]) [avD r] os fun res os'=>res=bl (Bhw b.vs.length r)∧os'=os:=by
  refine B3 (v:=[]) (q:=[]) (N:=29) (rs:=[.tmp 3]) Try.func91 rfl (by kernel_rfl) rfl rfl (fun hcl hfree=>?_)
  have hfr0:∀ k,os (bd+k)=none:=fun k=>hfree _ (by omega)
  have b2:=Ap hfree o2
  have hw:IntKind.i64.wrap ((b.vs.length:Int) - 1)=b.vs.length - 1:=Fc (by omega) (by omega)
  refine Ad fun K1 hK1=>?_
  simp (disch:=omega) only [hfr0,amL,sA,sB,↓reduceIte]
  refine hK1 _ ?_
  refine Ad fun K2 hK2=>?_
  simp (disch:=omega) only [o2,Ac,hw,amL,amT,sA,sF,↓reduceIte,reduceCtorEq]
  repeat' first | (refine Eo (fun h=>?_) (fun h=>?_) <;> simp (disch:=omega) only [h,amL,amT,sA,sB,sF,↓reduceIte,reduceCtorEq]) | (refine Cy (fun h=>?_) (fun h=>?_) <;> simp (disch:=omega) only [h,amL,amT,sA,sB,sF,↓reduceIte,reduceCtorEq]) | (refine Ax (by kernel_rfl) rfl (Kh _ _ _) (by first | exact .inl rfl | exact .inr (.inl rfl)) ?_ ; simp (disch:=omega) only [amL,sA,↓reduceIte])
  all_goals
   skip
   refine hK2 _ ?_
   refine Aj ?_
   try simp (disch:=omega) only [amL]
   first
     | (refine A6 (res:=bl (decide (r.d.lo≤r.d.hi))) os (by simp (disch:=omega) only [amL,↓reduceIte]; try rfl) (by first | ((repeat' first | exact Sub.refl _ | refine Sub.skip (by first | exact hfr0 _ | (simp (disch:=omega) only [Ac]; exact hfr0 _)) ?_ | refine Sub.both ?_); done) | fail) hcl (A9 _ rfl) ⟨?_,rfl⟩
        unfold Bhw
        rw [show inB r.v 0 ((b.vs.length:Int) - 1)=true by assumption,show decide (r.g.lo≤r.g.hi)=true by (first | assumption | exact decide_eq_true (by assumption)),Bool.true_and,Bool.true_and])
     | (refine A6 (res:=bl false) os (by simp (disch:=omega) only [amL,↓reduceIte]; try rfl) (by first | ((repeat' first | exact Sub.refl _ | refine Sub.skip (by first | exact hfr0 _ | (simp (disch:=omega) only [Ac]; exact hfr0 _)) ?_ | refine Sub.both ?_); done) | fail) hcl (A9 _ rfl) ⟨?_,rfl⟩
        unfold Bhw
        first
          | (rw [show inB r.v 0 ((b.vs.length:Int) - 1)=false by assumption,Bool.false_and]; done)
          | (rw [show decide (r.g.lo≤r.g.hi)=false by (first | assumption | exact decide_eq_false (by assumption)),Bool.false_and,Bool.and_false]; done))
     | trace_state
theorem Bpe {b:Ed} {l:List Rdg} {n2:Nat} {os:Nat→Option AO} {bd:Nat} (hb:b.vs.length < 1000000) (hl:l.length < 1000000) (o2:os n2=some (.cells (cB b))) :
    Bh Try.prog bd (.fn (.func 93) [] []) [.p (.sl (l.map Biq)),.fn (.func 91) [] [.ptr n2 0]] os fun res os'=>res=bl (l.all (Bhw b.vs.length))∧os'=os:=by
  have hT:Hb Try.prog (.fn (.func 91) [] [.ptr n2 0]) (fun q=>q=n2) avD l (fun (_:Unit) os=>os n2=some (.cells (cB b))) (fun _ r=>((),Bhw b.vs.length r)):={
    live:=fun s os hI=>by rw [Fu]; simp only [Cs,Cm,C6,hI,Option.isSome_some,and_self]
    stable:=fun s os os' hI he=>(he n2 rfl).trans hI
    foot:=fun s os n hI hn=>by
      subst hn
      exact ⟨_,hI,fun m hm=>by simp [AO.clean,AV.clean,AV.clean.cleanL] at hm⟩
    call:=fun s x os bd hx hI hcl=>Bh.mono (Bpc hb hI) (by
      rintro r os' ⟨rfl,rfl⟩
      exact ⟨rfl,hI,fun _ _=>rfl⟩) }
  refine Bh.mono (Bd9 elD sfD afD (by simp only [amT]; rfl) hl hT (fun m hm=>by simp [AV.clean,AV.clean.cleanL] at hm; omega) (s:=()) (bd:=bd) o2) ?_
  rintro r os' ⟨rfl,hI,hfr⟩
  refine ⟨by rw [R5],funext fun n=>?_⟩
  by_cases e:n=n2
  · subst e; rw [hI,o2]
  · exact hfr n e
def Bio:Code→Option (Code × Code)
  | .seq a b=>match Bio a with | some x=>some x | none=>Bio b
  | .block _ c=>Bio c
  | .loop c=>Bio c
  | .scope c=>Bio c
  | .rangeFunc _ _ a b=>some (a,b)
  | _=>none
theorem Bjb {nl:Nat} {k:F1} {tm:List (Nat × AV)} {R:AV→(Nat→Option AO)→Prop} {i:Nat} {s:St}:Tz nl k tm R (.exit i) s=P6 nl k tm R (some (.exit i)) s:=rfl
theorem Bl2:∀ {a b:List Int},(Biv a b < 0)=(Bhg a b=true)
  | [],[]=>by simp [Biv,Bhg]
  | [],_ :: _=>by simp [Biv,Bhg]
  | _ :: _,[]=>by simp [Biv,Bhg]
  | x :: a,y :: b=>by
    have ih:=Bl2 (a:=a) (b:=b)
    simp only [Biv,Bhg]
    by_cases e:x=y
    · subst e
      rw [if_pos (by unfold Bhy; simp),if_pos rfl]; exact ih
    · rw [if_neg e]
      unfold Bhy
      by_cases h:x < y
      · simp [h]
      · have:y < x:=by omega
        simp [h,this]
def Bie (l:List Rdg) (s:List Int × Bool) (v:List Liq):(List Int × Bool) × Option Code:=(Bh6 l s v,if (Bh6 l s v).1.length=0 then some (.exit 1) else none)
abbrev tmL (n3 n8 n9:Nat):List (Nat × AV):=[(3,.ptr n3 0),(8,.ptr n8 0),(9,.ptr n9 0)]
def Bmc (s:List Int × Bool):AV:=if s.2=true then isl s.1 else C4
structure LvI (l:List Rdg) (n3 n8 n9:Nat) (s:List Int × Bool) (os:Nat→Option AO):Prop where
  r:os n3=some (.cells [.p (.sl (l.map Biq))])
  b:os n8=some (.cells [Bmc s])
  f:os n9=some (.cells [bl s.2])
  len:s.1.length≤l.length
  no:s.2=false→s.1=[]
theorem Bmm {v:List Liq} {l:List Rdg} {k:Nat} (h:Bh0 v (l.getD k default)=false):Bid v l (k+1)=Bid v l k++[(k:Int)]:=by
  show (if _ then _ else _)=_
  rw [if_neg (by rw [h]; decide)]
theorem Blh {v:List Liq} {l:List Rdg} {k:Nat} (h:Bh0 v (l.getD k default)=true):Bid v l (k+1)=Bid v l k:=if_pos h
theorem Bot {n:Nat} {r:Rdg} (h:Bhw n r=true):0≤r.v∧r.v < n:=by
  simp only [Bhw,inB,Bool.and_eq_true,decide_eq_true_eq] at h; omega
theorem Bmo {os:Nat→Option AO}:∀ l:List Int,He os (l.map i64)=some (l.map i64)
  | []=>rfl
  | x :: l=>by show (match Fa os (i64 x),He os (l.map i64) with | some y,some ys=>some (y :: ys) | _,_=>none)=_; rw [Bmo l]; rfl
theorem Bld {os:Nat→Option AO} (v:List Liq):He os (cW v)=some (cW v):=Bmo _
theorem Bmx {o1 X:Nat→Option AO} {bdL b7 b8 bd:Nat} {LP:Option AO} {es:List (List PV)} {c:List AV} (h1:b7≠b8) (h2:b7≠bdL) (h3:b8≠bdL) (x7:X b7=some (.cells c)) (x8:X b8=some (.arr 1 es)) (xL:X bdL=LP) (hf:∀ q,bd≤q→o1 q=none) (hX:∀ q,q≠b7→q≠b8→q≠bdL→q < bd→X q=o1 q):Sub (upd (upd (upd o1 bdL LP) b7 (some (.cells c))) b8 (some (.arr 1 es))) X:=fun q=>by
  by_cases e8:q=b8
  · subst e8; right; rw [Bc,x8]
  · by_cases e7:q=b7
    · subst e7; right; rw [Ac e8,Bc,x7]
    · by_cases eL:q=bdL
      · subst eL; right; rw [Ac e8,Ac e7,Bc,xL]
      · rw [Ac e8,Ac e7,Ac eL]
        by_cases e13:bd≤q
        · exact .inl (hf q e13)
        · exact .inr (hX q e7 e8 eL (by omega)).symm
theorem Bol {n m:Nat} {os:Nat→Option AO} {x:Option AO} (h:m≠n) (hx:x.map (AO.purge n)=x):pgO n (upd os m x)=upd (pgO n os) m x:=by
  cases x with
  | none=>
    funext q
    unfold pgO upd
    by_cases e:q=m
    · subst e; simp [h]
    · simp [e]
  | some o=>
    have hx:o.purge n=o:=by simpa using hx
    rw [Ns h,hx]
theorem Bls (s:List Int × Bool):(Bmc s).isP=true:=by unfold Bmc; split <;> rfl
theorem Bmw {l:List Rdg} {s:List Int × Bool} {v:List Liq} (h:Bi4 s (Bi9 v l)=true):Bh6 l s v=(Bi9 v l,true):=if_pos h
theorem Bnk {l:List Rdg} {s:List Int × Bool} {v:List Liq} (h:Bi4 s (Bi9 v l)=false):Bh6 l s v=s:=if_neg (by rw [h]; decide)
theorem Boc {s:List Int} {o:List Int}:Bi4 (s,false) o=true:=rfl
theorem Bn5 {s:List Int} {o:List Int} (h:(o.length:Int) < s.length):Bi4 (s,true) o=true:=by
  simp only [Bi4,Bhd,Bool.not_true,Bool.false_or,decide_eq_true (show o.length < s.length by omega),Bool.true_or]
theorem Bn0 {s:List Int} {o:List Int} (h:(o.length:Int)=s.length) (h2:Bhg o s=true):Bi4 (s,true) o=true:=by
  simp only [Bi4,Bhd,Bool.not_true,decide_eq_true (show o.length=s.length by omega),h2,Bool.true_and,Bool.or_true]
theorem Bnn {s:List Int} {o:List Int} (h:¬ (o.length:Int) < s.length) (h2:¬ (o.length:Int)=s.length):Bi4 (s,true) o=false:=by
  simp only [Bi4,Bhd,Bool.not_true,Bool.false_or,decide_eq_false (show ¬ o.length < s.length by omega),decide_eq_false (show ¬ o.length=s.length by omega),Bool.false_and]
theorem Bnw {s:List Int} {o:List Int} (h:¬ (o.length:Int) < s.length) (h2:¬ Bhg o s=true):Bi4 (s,true) o=false:=by
  have h3:Bhg o s=false:=by simpa using h2
  simp only [Bi4,Bhd,Bool.not_true,Bool.false_or,decide_eq_false (show ¬ o.length < s.length by omega),h3,Bool.and_false]
theorem Boq {l:List Rdg} {s:List Int × Bool} {v:List Liq} (h:s.1.length≤l.length):(Bh6 l s v).1.length≤l.length:=by
  unfold Bh6; split
  · exact Bn7
  · exact h
theorem Bou {l:List Rdg} {s:List Int × Bool} {v:List Liq} (h:s.2=false→s.1=[]):(Bh6 l s v).2=false→(Bh6 l s v).1=[]:=by
  unfold Bh6; split
  · intro h; cases h
  · exact h
theorem Bm0 {l:List Rdg} {n3 n8 n9 bdL bd1:Nat} {s:List Int × Bool} {x:List Liq} {o1 X:Nat→Option AO} {K:F1} {tt:Nat→AV} {jump:Option Code} (t:List Int × Bool) (ht:Bh6 l s x=t) (hj:jump=if t.1.length=0 then some (.exit 1) else none)
    (hI:LvI l n3 n8 n9 s o1) (hcl:(Hp o1).closed) (d1:n3 < n8) (d2:n8 < n9) (d3:n9 < bdL) (d4:bdL < bd1) (hfree:∀ n,bd1≤n→o1 n=none)
    (x8:X n8=some (.cells [Bmc t])) (x9:X n9=some (.cells [bl t.2])) (xL:X bdL=some (.loop { K with state:=.busy } (tmL n3 n8 n9))) (hX:∀ q,q≠n8→q≠n9→q≠bdL→q < bd1→X q=o1 q) :
    P6 bdL K (tmL n3 n8 n9) (fun res os'=>res=bl (Bie l s x).2.isNone∧(LvI l n3 n8 n9 (Bie l s x).1 os'∧os' bdL=some (.loop (Al1 K (Bie l s x).2) (tmL n3 n8 n9)))∧∀ n,¬ ((n=n3∨n=n8∨n=n9)∨n=bdL)→os' n=o1 n) jump ⟨tt,X⟩:=by
  have hb:Bie l s x=(t,jump):=by unfold Bie; rw [ht,hj]
  rw [hb]
  have hlen:=Boq (v:=x) hI.len
  have hno:=Bou (l:=l) (v:=x) hI.no
  rw [ht] at hlen hno
  refine Qb (upd (upd (upd o1 n8 (some (.cells [Bmc t]))) n9 (some (.cells [bl t.2]))) bdL (some (.loop (Al1 K jump) (tmL n3 n8 n9)))) xL (fun z=>?_) ?_ ⟨rfl,⟨⟨?_,?_,?_,hlen,hno⟩,Bc⟩,fun q hq=>?_⟩
  · show _∨_=upd X bdL _ z
    by_cases e1:z=bdL
    · subst e1; right; rw [Bc,Bc]
    · rw [Ac e1,Ac e1]
      by_cases e2:z=n9
      · subst e2; right; rw [Bc,x9]
      · rw [Ac e2]
        by_cases e3:z=n8
        · subst e3; right; rw [Bc,x8]
        · rw [Ac e3]
          by_cases e4:bd1≤z
          · exact .inl (hfree z e4)
          · exact .inr (hX z e3 e2 e1 (by omega)).symm
  · refine Cr (F7 (F7 hcl (by simp [Bls])) (by simp [AV.isP])) fun q hq=>?_
    have e:q=n3∨q=n8∨q=n9:=by
      simp [AO.clean,AV.clean,AV.clean.cleanL] at hq; omega
    rcases e with rfl | rfl | rfl
    · rw [Ac (by omega),Ac (by omega),Ac (by omega),hI.r]; rfl
    · rw [Ac (by omega),Ac (by omega),Bc]; rfl
    · rw [Ac (by omega),Bc]; rfl
  · rw [Ac (by omega),Ac (by omega),Ac (by omega)]; exact hI.r
  · rw [Ac (by omega),Ac (by omega),Bc]
  · rw [Ac (by omega),Bc]
  · rw [Ac (fun e=>hq (.inr e)),Ac (fun e=>hq (.inl (.inr (.inr e)))),Ac (fun e=>hq (.inl (.inr (.inl e))))]
theorem Boh {L:List (List Liq)} {l:List Rdg} {n n3 n8 n9 bdL:Nat} (hn:n≤4) (hll:l.length≤4) (hr:∀ r ∈ l,Bhw n r=true) (hL:∀ v ∈ L,OkV v) (d1:n3 < n8) (d2:n8 < n9) (d3:n9 < bdL) {A B:Code} (hcode:(Try.f36.body.bind Bio)=some (A,B)) :
    Zu Try.prog bdL ⟨78,[32],A,B,.ready,none⟩ (tmL n3 n8 n9) [] [] (fun q=>q=n3∨q=n8∨q=n9) avW L (LvI l n3 n8 n9) (Bie l) where
  ready:=rfl
  lenp:=rfl
  psn q hq:=by
    simp only [List.mem_cons,List.not_mem_nil,or_false] at hq
    subst hq; exact (by decide:32 < 78)
  notF h:=by omega
  tmF q hq:=by
    simp [AO.clean,AV.clean,AV.clean.cleanL] at hq
    omega
  stable s o1 o2 hI he:=⟨(he n3 (by omega)).trans hI.r,(he n8 (by omega)).trans hI.b,(he n9 (by omega)).trans hI.f,hI.len,hI.no⟩
  foot s o1 q hI hq:=by
    rcases hq with rfl | rfl | rfl
    · exact ⟨_,hI.r,fun m hm=>by simp [AO.clean,AV.clean,AV.clean.cleanL] at hm⟩
    · exact ⟨_,hI.b,fun m hm=>by
        have e:(Bmc s).clean m=true:=Nt (Bls s) m
        simp [AO.clean,AV.clean.cleanL,e] at hm⟩
    · exact ⟨_,hI.f,fun m hm=>by simp [AO.clean,AV.clean,AV.clean.cleanL] at hm⟩
  body s x o1 bd1 hx hI hl hcl1 hfree1 hb1 rl:=by
    have hI0:=hI
    obtain ⟨s1,f⟩:=s
    obtain ⟨a3,a8,a9,hlen,hno⟩:=hI
    dsimp only at a8 a9 hlen hno
    have hok:=hL x hx
    have hx4:=hok.len
    have hfr0:∀ k,o1 (bd1+k)=none:=fun k=>hfree1 _ (by omega)
    have b3:=Ap hfree1 a3
    have b8:=Ap hfree1 a8
    have b9:=Ap hfree1 a9
    obtain ⟨LP,hLP⟩:∃ LP:Option AO,LP=some (.loop ⟨78,[32],A,B,.busy,none⟩ (tmL n3 n8 n9)):=⟨_,rfl⟩
    have hclL:∀ {os:Nat→Option AO} {kk:F1},(Hp os).closed→(os n3).isSome=true→(os n8).isSome=true→(os n9).isSome=true→(Hp (upd os bdL (some (.loop kk (tmL n3 n8 n9))))).closed:=fun {os kk} hc h1 h2 h3=>Cr hc (fun q hq=>by
      have e:q=n3∨q=n8∨q=n9:=by
        simp [AO.clean,AV.clean,AV.clean.cleanL] at hq; omega
      unfold upd
      split
      · rfl
      · rcases e with e | e | e <;> rw [e] <;> assumption)
    have hcl2:(Hp (upd o1 bdL LP)).closed:=by rw [hLP]; exact hclL hcl1 (by rw [a3]; rfl) (by rw [a8]; rfl) (by rw [a9]; rfl)
    have hpg:∀ k,pgO (bd1+k) o1=o1:=fun k=>Ady hcl1 (hfr0 k)
    have hpgL:∀ k (os:Nat→Option AO),pgO (bd1+k) (upd os bdL LP)=upd (pgO (bd1+k) os) bdL LP:=fun k os=>Bol (by omega) (by
      rw [hLP]
      show some (AO.loop _ (List.map _ _))=_
      congr 2
      simp (disch:=omega) only [tmL,List.map_cons,List.map_nil,X0,if_neg])
    cases f
    all_goals
      first
        | (have a8:o1 n8=some (.cells [isl s1]):=a8)
        | (have a8:o1 n8=some (.cells [C4]):=a8)
      cases (show some (_,_)=some (A,B) from hcode)
      show AWP _ _ 78 _ ⟨T [(32,avW x),(3,.ptr n3 0),(8,.ptr n8 0),(9,.ptr n9 0)],o1⟩ _
      refine Ah ?_
      simp (disch:=(first | assumption | omega)) only [hl,hfr0,Ac,Bz,A0,Aio,amL,amT,sA,sB,sF,↓reduceIte]
      try simp (disch:=(first | assumption | omega)) only [hl,hfr0,Ac,Bz,Br,A0,Aio,amL,amT,sA,sB,sC,sD,sE,sF,sG,sH,sI,sJ,sK,sL,sM,sN,sO,↓reduceIte,reduceCtorEq]
      skip
      refine Ar ?_
      refine Ad fun K1 hK1=>?_
      simp (disch:=(first | assumption | omega)) only [amL,sA]
      refine hK1 _ ?_
      refine Ab fun K2 hK2=>?_
      refine Ad fun K3 hK3=>?_
      simp (disch:=(first | assumption | omega)) only [a3,Ac,amL,amT,sA,sF,↓reduceIte]
      refine hK3 _ ?_
      refine Ar ?_
      rw [← hLP]
      refine Wh (bd1+47) 1 11 (by simp only []; omega) rfl (by simp (disch:=omega) only [Ac]; exact hfr0 47) ?_
      refine Bg (α:=Nat) (fun k=>⟨T [(3,.ptr n3 0),(8,.ptr n8 0),(9,.ptr n9 0),(10,.ptr (bd1+10) 0),(11,.own (bd1+47) (Bid x l k).length),(33,.p (.sl (l.map Biq))),(34,i64 (l.length:Int)),(35,i64 (k:Int))],upd (upd (upd o1 bdL LP) (bd1+10) (some (.cells (cW x)))) (bd1+47) (some (.arr 1 ((Bid x l k).map fun n=>[iv n])))⟩) (fun k=>l.length - k) (fun k=>k≤l.length) 0 ?_ ?_ (fun k hx4 K4 hK4=>?_)
      · exact Nat.zero_le _
      · refine Hd ?_ ?_ ?_ ?_ <;> (try simp (disch:=(first | assumption | omega)) only [a3,a8,a9,Ac,amL,sF,↓reduceIte]); all_goals first | rfl | exact Nc (Ec hcl2) | exact Bmx (by omega) (by omega) (by omega) (by simp (disch:=omega) only [Ac,Bc]) (by simp (disch:=omega) only [Bc] ; first | done | rfl) (by simp (disch:=omega) only [Ac,Bc]) hfree1 (fun q h1 h2 h3 h4=>by simp (disch:=omega) only [Ac]) | trace_state
      have hk:=hx4; have hlk:=Bj7 (v:=x) (l:=l) k
      refine Ad fun K5 hK5=>?_
      simp (disch:=(first | assumption | omega)) only [amL,amT,sA,sF,↓reduceIte]
      refine hK5 _ ?_
      refine Ab fun K6 hK6=>?_
      refine Al rfl (fun h=>MT.x ?_) (fun h=>ME.x ?_)
      all_goals
       first
       |refine MT.mk ?_
        first
        |exact Bool.noConfusion h
        |skip
         try simp only [nrm] at h
         refine Am ?_
         refine hK6 _ ?_
       |refine ME.mk ?_
        first
        |exact Bool.noConfusion h
        |skip
         try simp only [nrm] at h
         refine Bq ?_
         refine hK2 _ ?_
         refine Ab fun K7 hK7=>?_
         refine Ab fun K8 hK8=>?_
         obtain rfl:k=l.length:=by omega
         refine Acm (Ec hcl2) (by simp (disch:=omega) only [Ac]; exact hfr0 47) ?_
         simp (disch:=omega) only [W2,AV.frz,if_neg,if_true,List.length_map,Nat.le_refl]
         rw [List.take_of_length_le (by simp)]
         refine Ah ?_
         simp (disch:=(first | assumption | omega)) only [a8,a9,Ac,amL,amT,sA,sF,↓reduceIte]
         repeat' first | (refine Eo (fun h=>?_) (fun h=>?_) <;> simp (disch:=(first | assumption | omega)) only [h,a8,Ac,List.map_cons,List.map_nil,amL,amT,sA,sF,↓reduceIte]) | (refine Cy (fun h=>?_) (fun h=>?_) <;> simp (disch:=(first | assumption | omega)) only [h,a3,a8,a9,hl,hfr0,Ac,Bz,Br,A0,Bld,Bik,Hm,Ns,Lb,hpg,hpgL,J9,Ep,Gl,List.map_cons,List.map_nil,Lz,Wq,Af7,Bjb,Ss,Pa,Bl2,amL,amT,sA,sB,sC,sD,sE,sF,sG,sH,sI,sJ,sK,sL,sM,sN,sO,↓reduceIte,reduceCtorEq]) | (refine Ax (by kernel_rfl) rfl (Bm8 _ _ (by omega) (by omega)) (by first | exact .inl rfl | exact .inr (.inl rfl)) ?_ ; simp (disch:=(first | assumption | omega)) only [Bl2,amL,amT,sA,sF,↓reduceIte])
         all_goals
          skip
          refine hK8 _ ?_
          refine Al rfl (fun h=>MT.x ?_) (fun h=>ME.x ?_)
          all_goals
           first
           |refine MT.mk ?_
            first
            |exact Bool.noConfusion h
            |skip
             try simp only [nrm] at h
             refine Ah ?_
             simp (disch:=(first | assumption | omega)) only [a8,a9,Ac,amL,amT,sA,sF,↓reduceIte]
             refine hK7 _ ?_
           |refine ME.mk ?_
            first
            |exact Bool.noConfusion h
            |skip
             try simp only [nrm] at h
             refine Am ?_
             refine hK7 _ ?_
          all_goals
           skip
           refine Ad fun K9 hK9=>?_
           simp (disch:=(first | assumption | omega)) only [a8,Ac,amL,amT,sA,sF,↓reduceIte]
           refine hK9 _ ?_
           refine Al rfl (fun h=>?_) (fun h=>?_)
           ·first
            | exact Bool.noConfusion h
            |skip
             try simp only [nrm] at h
             refine Bq ?_
             try simp (disch:=(first | assumption | omega)) only [Bjb,Ss,sF,↓reduceIte]
             first
               | (refine Bm0 (Bi9 x l,true) (Bmw (by first | exact Boc | exact Bn5 (by assumption) | exact Bn0 (by assumption) (by assumption))) (by first | exact (if_neg (show ¬ (Bid x l l.length).length=0 by omega)).symm | exact (if_pos (show (Bid x l l.length).length=0 by omega)).symm) hI0 hcl1 d1 d2 d3 hb1 hfree1 ((Ac (by omega)).trans Bc) Bc (by simp (disch:=omega) only [Ac,Bc]; exact hLP) (fun q h1 h2 h3 h4=>by simp (disch:=omega) only [Ac]) ; done)
               | (refine Bm0 (s1,true) (Bnk (by first | exact Bnn (by assumption) (by assumption) | exact Bnw (by assumption) (by assumption))) (by first | exact (if_neg (show ¬ s1.length=0 by omega)).symm | exact (if_pos (show s1.length=0 by omega)).symm) hI0 hcl1 d1 d2 d3 hb1 hfree1 (by simp (disch:=omega) only [Ac]; exact a8) (by simp (disch:=omega) only [Ac]; exact a9) (by simp (disch:=omega) only [Ac,Bc]; exact hLP) (fun q h1 h2 h3 h4=>by simp (disch:=omega) only [Ac]) ; done)
               | trace_state
           ·first
            | exact Bool.noConfusion h
            |skip
             try simp only [nrm] at h
             refine Am ?_
             try simp (disch:=(first | assumption | omega)) only [Wq,Pa]
             first
               | (refine Bm0 (Bi9 x l,true) (Bmw (by first | exact Boc | exact Bn5 (by assumption) | exact Bn0 (by assumption) (by assumption))) (by first | exact (if_neg (show ¬ (Bid x l l.length).length=0 by omega)).symm | exact (if_pos (show (Bid x l l.length).length=0 by omega)).symm) hI0 hcl1 d1 d2 d3 hb1 hfree1 ((Ac (by omega)).trans Bc) Bc (by simp (disch:=omega) only [Ac,Bc]; exact hLP) (fun q h1 h2 h3 h4=>by simp (disch:=omega) only [Ac]) ; done)
               | (refine Bm0 (s1,true) (Bnk (by first | exact Bnn (by assumption) (by assumption) | exact Bnw (by assumption) (by assumption))) (by first | exact (if_neg (show ¬ s1.length=0 by omega)).symm | exact (if_pos (show s1.length=0 by omega)).symm) hI0 hcl1 d1 d2 d3 hb1 hfree1 (by simp (disch:=omega) only [Ac]; exact a8) (by simp (disch:=omega) only [Ac]; exact a9) (by simp (disch:=omega) only [Ac,Bc]; exact hLP) (fun q h1 h2 h3 h4=>by simp (disch:=omega) only [Ac]) ; done)
               | trace_state
      all_goals
       skip
       refine Ab fun K10 hK10=>?_
       refine Ar ?_
       refine Ad fun K11 hK11=>?_
       simp (disch:=(first | assumption | omega)) only [hfr0,Ac,Bz,Bik,List.map_cons,List.map_nil,amL,amT,sA,sB,sF,↓reduceIte]
       refine hK11 _ ?_
       refine Ad fun K12 hK12=>?_
       have hrk:=Bot (hr _ (Dv default (show k < l.length by omega)))
       simp (disch:=(first | assumption | omega)) only [Ac,Br,A0,Bld,List.map_cons,List.map_nil,amL,amT,sA,sB,sF,↓reduceIte]
       repeat' first | (refine Ax (by kernel_rfl) rfl (Bny x (l.getD k default) hok (by omega) (by omega)) (by first | exact .inl rfl | exact .inr (.inl rfl)) ?_ ; simp (disch:=(first | assumption | omega)) only [amL,sA,↓reduceIte])
       refine hK12 _ ?_
       refine Al rfl (fun h=>MT.x ?_) (fun h=>ME.x ?_)
       all_goals
        first
        |refine MT.mk ?_
         first
         |exact Bool.noConfusion h
         |skip
          try simp only [nrm] at h
          refine Ah ?_
          simp (disch:=(first | assumption | omega)) only [hfr0,Ac,Hm,Ns,Lb,hpg,hpgL,J9,Ep,Gl,List.map_cons,List.map_nil,Lz,Pa,amL,amT,sA,sE,sF,↓reduceIte,reduceCtorEq]
          refine hK10 _ ?_
        |refine ME.mk ?_
         first
         |exact Bool.noConfusion h
         |skip
          try simp only [nrm] at h
          refine Am ?_
          refine hK10 _ ?_
       all_goals
        skip
        refine Ah ?_
        simp (disch:=(first | assumption | omega)) only [amL,amT,sA,sF,↓reduceIte]
        refine hK4 (k+1) _ ?_ ?_ (Hd ?_ ?_ ?_ ?_)
        all_goals (try simp (disch:=(first | assumption | omega)) only [a3,a8,a9,Ac,amL,sF,↓reduceIte])
        all_goals first | omega | (rw [Bmm (by assumption),List.length_append]; rfl) | (rw [Blh (by assumption)]; done) | (rw [Bmm (by assumption),List.map_append]; exact Bmx (by omega) (by omega) (by omega) (by simp (disch:=omega) only [Ac,Bc]) (by simp (disch:=omega) only [Bc] ; first | done | rfl) (by simp (disch:=omega) only [Ac,Bc]) hfree1 (fun q h1 h2 h3 h4=>by simp (disch:=omega) only [Ac])) | (rw [Blh (by assumption)]; exact Bmx (by omega) (by omega) (by omega) (by simp (disch:=omega) only [Ac,Bc]) (by simp (disch:=omega) only [Ac,Bc] ; first | done | rfl) (by simp (disch:=omega) only [Ac,Bc]) hfree1 (fun q h1 h2 h3 h4=>by simp (disch:=omega) only [Ac])) | exact Nc (Ec hcl2) | exact Bmx (by omega) (by omega) (by omega) (by simp (disch:=omega) only [Ac,Bc]) (by simp (disch:=omega) only [Ac,Bc] ; first | done | rfl) (by simp (disch:=omega) only [Ac,Bc]) hfree1 (fun q h1 h2 h3 h4=>by simp (disch:=omega) only [Ac]) | trace_state
theorem Bmg {l:List Rdg}:∀ (L:List (List Liq)) (s:List Int × Bool),(Gb (fun (s:(List Int × Bool) × Option Code) x=>(Bie l s.1 x,(Bie l s.1 x).2.isNone)) (s,none) L).1.1=Bhu l s L ∧
    ((Gb (fun (s:(List Int × Bool) × Option Code) x=>(Bie l s.1 x,(Bie l s.1 x).2.isNone)) (s,none) L).1.2=none∨(Gb (fun (s:(List Int × Bool) × Option Code) x=>(Bie l s.1 x,(Bie l s.1 x).2.isNone)) (s,none) L).1.2=some (.exit 1))
  | [],s=>⟨rfl,.inl rfl⟩
  | x :: L,s=>by
    by_cases h:(Bh6 l s x).1.length=0
    · have hb:Bie l s x=(Bh6 l s x,some (.exit 1)):=by unfold Bie; rw [if_pos h]
      simp only [Gb,hb,Option.isNone_some,Bool.false_eq_true,if_false,Bhu,if_pos h]
      exact ⟨trivial,.inr trivial⟩
    · have hb:Bie l s x=(Bh6 l s x,none):=by unfold Bie; rw [if_neg h]
      simp only [Gb,hb,Option.isNone_none,if_true,Bhu,if_neg h]
      exact Bmg L _
theorem Bo4 {jump:Option Code} {Q:AEx→St→Prop} {s:St} (h:Lf 1 Q .normal s) :
    (match jump with | none=>Lf 1 Q .normal s | some .ret=>Lf 1 Q .ret s | some (.exit i)=>Lf 1 Q (.exit i) s | _=>False)∨¬ (jump=none∨jump=some (.exit 1)):=by
  by_cases hj:jump=none∨jump=some (.exit 1)
  · left
    rcases hj with rfl | rfl
    · exact h
    · exact h
  · exact .inr hj
def Bg8 (b:Ed) (l:List Rdg):AV:=
  if B5 b=0 then
    if 4 < (l.length:Int) then .tup [C4,i64 3]
    else if l.all (Bhw b.vs.length)=false then .tup [C4,i64 2]
    else if (Bhu l ([],false) (Bhi b)).2=true then .tup [isl (Bhu l ([],false) (Bhi b)).1,i64 0] else .tup [C4,i64 9]
  else .tup [C4,i64 (B5 b)]
theorem Bl1 (b:Ed) (l:List Rdg):(Bg8 b l).isP=true:=by
  unfold Bg8; split
  · split
    · rfl
    · split
      · rfl
      · split <;> rfl
  · rfl
theorem Bm1 (b:Ed) (l:List Rdg) (hl:b.vs.length < 1000000) (hl2:b.ss.length < 1000000) (hll:l.length < 1000000):Bv Try.prog 36 [avB b,.p (.sl (l.map Biq))] (Bg8 b l):=by
  refine Aj6 (v:=[61,94,93]) (q:=[]) (N:=78) (rs:=[.tmp 4,.tmp 5]) Try.func36 rfl rfl rfl rfl (Bl1 b l) ?_
  obtain ⟨A,B,hcode⟩:∃ A B,(Try.f36.body.bind Bio)=some (A,B):=⟨_,_,rfl⟩
  refine Lj fun K1 hK1=>?_
  refine Ah ?_
  simp (disch:=(first | assumption | omega)) only [amL,sA,sB,sF,↓reduceIte,reduceCtorEq]
  refine hK1 _ ?_
  refine Af5 ?_
  refine Lj fun K2 hK2=>?_
  refine Ad fun K3 hK3=>?_
  simp (disch:=(first | assumption | omega)) only [amL,amT,sA,sB,sF,sG,↓reduceIte]
  repeat' first | (refine Ax (by kernel_rfl) rfl (Agg b hl hl2) (by first | exact .inl rfl | exact .inr (.inl rfl)) ?_ ; simp (disch:=(first | assumption | omega)) only [amL,sA,↓reduceIte])
  refine hK3 _ ?_
  refine Ad fun K4 hK4=>?_
  simp (disch:=(first | assumption | omega)) only [ne_eq,amL,amT,sA,↓reduceIte]
  refine hK4 _ ?_
  refine Al rfl (fun h=>MT.x ?_) (fun h=>ME.x ?_)
  all_goals
   first
   |refine MT.mk ?_
    first
    |exact Bool.noConfusion h
    |skip
     try simp only [nrm] at h
     refine Ad fun K5 hK5=>?_
     simp (disch:=(first | assumption | omega)) only [amL,sA,sF,↓reduceIte]
     refine hK5 _ ?_
     refine Aj ?_
     try simp (disch:=(first | assumption | omega)) only [amL,sF,↓reduceIte]
     first
       | (unfold Bg8; rw [if_neg (by assumption)]; done)
       | (unfold Bg8; rw [if_pos (by omega),if_pos (by assumption)]; done)
       | (unfold Bg8; rw [if_pos (by omega),if_neg (by omega),if_pos (by assumption)]; done)
       | (unfold Bg8; rw [if_pos (by omega),if_neg (by omega),if_neg (by rw [hral]; decide),hb,if_neg (fun e=>Bool.noConfusion ((show f2=false by assumption).symm.trans e))]; done)
       | (unfold Bg8; rw [if_pos (by omega),if_neg (by omega),if_neg (by rw [hral]; decide),hb,if_pos (by assumption)]; done)
       | trace_state
   |refine ME.mk ?_
    first
    |exact Bool.noConfusion h
    |skip
     try simp only [nrm] at h
     refine Am ?_
     refine hK2 _ ?_
  all_goals
   skip
   refine Lj fun K6 hK6=>?_
   refine Ah ?_
   simp (disch:=(first | assumption | omega)) only [amL,sA,sF,↓reduceIte]
   refine hK6 _ ?_
   refine Lj fun K7 hK7=>?_
   refine Ar ?_
   refine Ad fun K8 hK8=>?_
   simp (disch:=(first | assumption | omega)) only [List.length_map,amL,amT,sA,sF,↓reduceIte]
   refine hK8 _ ?_
   refine Al rfl (fun h=>MT.x ?_) (fun h=>ME.x ?_)
   all_goals
    first
    |refine MT.mk ?_
     first
     |exact Bool.noConfusion h
     |skip
      try simp only [nrm] at h
      refine Ad fun K9 hK9=>?_
      simp (disch:=(first | assumption | omega)) only [amL,sA]
      refine hK9 _ ?_
      refine Aj ?_
      try simp (disch:=(first | assumption | omega)) only [amL,sF,↓reduceIte]
      first
        | (unfold Bg8; rw [if_neg (by assumption)]; done)
        | (unfold Bg8; rw [if_pos (by omega),if_pos (by assumption)]; done)
        | (unfold Bg8; rw [if_pos (by omega),if_neg (by omega),if_pos (by assumption)]; done)
        | (unfold Bg8; rw [if_pos (by omega),if_neg (by omega),if_neg (by rw [hral]; decide),hb,if_neg (fun e=>Bool.noConfusion ((show f2=false by assumption).symm.trans e))]; done)
        | (unfold Bg8; rw [if_pos (by omega),if_neg (by omega),if_neg (by rw [hral]; decide),hb,if_pos (by assumption)]; done)
        | trace_state
    |refine ME.mk ?_
     first
     |exact Bool.noConfusion h
     |skip
      try simp only [nrm] at h
      refine Ad fun K10 hK10=>?_
      simp (disch:=(first | assumption | omega)) only [amL,amT,sA,sF,sG,↓reduceIte]
      refine A2 [(2,.ptr 2 0),(3,.ptr 3 0),(7,.fn (.func 91) [] [.ptr 2 0])] (by decide) (Bpe (b:=b) (l:=l) (n2:=2) (bd:=78) hl hll rfl) (Lg rfl) (by decide) (fun res os2 hR hcl2 hlv2=>?_)
      obtain ⟨rfl,rfl⟩:=hR
      simp (disch:=(first | assumption | omega)) only [amL,sA,sF,↓reduceIte]
      refine hK10 _ ?_
      refine Al rfl (fun h=>MT.x ?_) (fun h=>ME.x ?_)
      all_goals
       first
       |refine MT.mk ?_
        first
        |exact Bool.noConfusion h
        |skip
         try simp only [nrm] at h
         refine Ad fun K11 hK11=>?_
         simp (disch:=(first | assumption | omega)) only [amL,sA]
         refine hK11 _ ?_
         refine Aj ?_
         try simp (disch:=(first | assumption | omega)) only [amL,sF,↓reduceIte]
         first
           | (unfold Bg8; rw [if_neg (by assumption)]; done)
           | (unfold Bg8; rw [if_pos (by omega),if_pos (by assumption)]; done)
           | (unfold Bg8; rw [if_pos (by omega),if_neg (by omega),if_pos (by assumption)]; done)
           | (unfold Bg8; rw [if_pos (by omega),if_neg (by omega),if_neg (by rw [hral]; decide),hb,if_neg (fun e=>Bool.noConfusion ((show f2=false by assumption).symm.trans e))]; done)
           | (unfold Bg8; rw [if_pos (by omega),if_neg (by omega),if_neg (by rw [hral]; decide),hb,if_pos (by assumption)]; done)
           | trace_state
       |refine ME.mk ?_
        first
        |exact Bool.noConfusion h
        |skip
         try simp only [nrm] at h
         refine Am ?_
         refine hK7 _ ?_
   all_goals
    skip
    refine Lj fun K12 hK12=>?_
    refine Ah ?_
    have hf0:B5 b=0:=by omega
    have hval:=Aa9 hf0
    have hnv:=hval.nv
    have hral:l.all (Bhw b.vs.length)=true:=by assumption
    have hr:∀ r ∈ l,Bhw b.vs.length r=true:=List.all_eq_true.1 hral
    have hll4:l.length≤4:=by omega
    simp (disch:=(first | assumption | omega)) only [amL,amT,sA,sF,↓reduceIte]
    refine hK12 _ ?_
    refine Lj fun K13 hK13=>?_
    refine Ah ?_
    simp (disch:=(first | assumption | omega)) only [amL,amT,sA,sF,↓reduceIte]
    refine hK13 _ ?_
    refine Lj fun K14 hK14=>?_
    refine Xr ?_
    refine hK14 _ ?_
    refine Aer fun K15 hK15=>?_
    refine Lj fun K16 hK16=>?_
    refine Ah ?_
    simp (disch:=(first | assumption | omega)) only [amL,amT,sA,sB,sF,sG,↓reduceIte]
    refine A2 [(2,.ptr 2 0),(3,.ptr 3 0),(8,.ptr 8 0),(9,.ptr 9 0)] (by decide) (Dp (b:=b) (bd:=78)) (Lg rfl) (by decide) (fun res os2 hR hcl2 hlv2=>?_)
    obtain ⟨rfl,rfl⟩:=hR
    simp (disch:=(first | assumption | omega)) only [amL,sB,sF,sG,↓reduceIte]
    refine A2 [(2,.ptr 2 0),(3,.ptr 3 0),(8,.ptr 8 0),(9,.ptr 9 0)] (by decide) (Bnp (nw:=84) (bd:=91) rfl) (Lg rfl) (by decide) (fun res os2 hR hcl3 hlv3=>?_)
    obtain ⟨rfl,rfl⟩:=hR
    simp (disch:=(first | assumption | omega)) only [amL,sB,sF,↓reduceIte]
    refine hK16 _ ?_
    refine Vi ?_
    have hLk:∀ v ∈ Bhi b,OkV v:=Bih (P:=OkV) _ _ _ (fun x hx he=>(Amw hval (Bh3 hx)).2 he)
    have hRd:=Boh (L:=Bhi b) (l:=l) (n:=b.vs.length) (n3:=3) (n8:=8) (n9:=9) (bdL:=93) hnv hll4 hr hLk (by decide) (by decide) (by decide) hcode
    have hmem:∀ x ∈ Bha (Fy b) [],Bhv b x=true→Bhe b x ∈ Bhi b:=fun x hx he=>by
      rcases Bh9 (b:=b) _ v0 true hx he with h | h
      · exact h
      · exact absurd h.1 (by decide)
    cases (show some (_,_)=some (A,B) from hcode)
    refine Mg (bd:=93) (tm:=tmL 3 8 9) rfl (Lg rfl) (by decide) rfl (by kernel_rfl) (fun i=>Aau (by simp (disch:=(first | assumption | omega)) only [amL,sF,↓reduceIte]) i) (Bbt (by simp (disch:=(first | assumption | omega)) only [amL,sF,↓reduceIte])) (Bmq (b:=b) (F:=fun q=>(q=3∨q=8∨q=9)∨q=93) hRd.yields rfl hmem hval (fun q hq=>by
      simp only [AV.clean,bne_eq_false_iff_eq] at hq
      exact .inr hq.symm) (n1:=92) (nw:=84) (m:=82) (by decide) (by decide) (by decide) (s:=(([],false),none)) (bd:=94) rfl ⟨rfl,rfl⟩ rfl ⟨⟨rfl,rfl,rfl,Nat.zero_le _,fun _=>rfl⟩,rfl⟩) (fun res os2 hR hcl2=>?_)
    obtain ⟨rfl,hI2,hfr2⟩:=hR
    have hj:=(Bmg (l:=l) (Bhi b) ([],false)).2
    rw [(Bmg (l:=l) (Bhi b) ([],false)).1] at hI2
    generalize (Gb (fun (s:(List Int × Bool) × Option Code) x=>(Bie l s.1 x,(Bie l s.1 x).2.isNone)) (([],false),none) (Bhi b)).1.2=jump at hj hI2
    generalize hb:Bhu l ([],false) (Bhi b)=bb at hI2
    obtain ⟨o2,f2⟩:=bb
    obtain ⟨⟨q3,q8,q9,qn,qo⟩,q7⟩:=hI2
    dsimp only at q3 q8 q9 qn qo q7
    refine ⟨_,q7,by rcases hj with rfl | rfl <;> simp [],(Bo4 ?_).resolve_right (fun e=>e hj)⟩
    simp only [Pa,Qq]
    refine hK15 _ ?_
    refine Lj fun K17 hK17=>?_
    refine Ad fun K18 hK18=>?_
    simp (disch:=(first | assumption | omega)) only [q9,Ac,amL,amT,sA,sF,↓reduceIte]
    refine hK18 _ ?_
    refine Al rfl (fun h=>MT.x ?_) (fun h=>ME.x ?_)
    all_goals
     first
     |refine MT.mk ?_
      first
      |exact Bool.noConfusion h
      |skip
       try simp only [nrm] at h
       refine Ad fun K19 hK19=>?_
       simp (disch:=(first | assumption | omega)) only [amL,sA]
       refine hK19 _ ?_
       refine Aj ?_
       try simp (disch:=(first | assumption | omega)) only [amL,sF,↓reduceIte]
       first
         | (unfold Bg8; rw [if_neg (by assumption)]; done)
         | (unfold Bg8; rw [if_pos (by omega),if_pos (by assumption)]; done)
         | (unfold Bg8; rw [if_pos (by omega),if_neg (by omega),if_pos (by assumption)]; done)
         | (unfold Bg8; rw [if_pos (by omega),if_neg (by omega),if_neg (by rw [hral]; decide),hb,if_neg (fun e=>Bool.noConfusion ((show f2=false by assumption).symm.trans e))]; done)
         | (unfold Bg8; rw [if_pos (by omega),if_neg (by omega),if_neg (by rw [hral]; decide),hb,if_pos (by assumption)]; done)
         | trace_state
     |refine ME.mk ?_
      first
      |exact Bool.noConfusion h
      |skip
       try simp only [nrm] at h
       refine Am ?_
       refine hK17 _ ?_
    all_goals
     skip
     refine Lj fun K20 hK20=>?_
     refine Ah ?_
     have hbe:Bmc (o2,f2)=isl o2:=if_pos (by assumption)
     simp (disch:=(first | assumption | omega)) only [q8,hbe,Ac,amL,amT,sA,sF,↓reduceIte]
     refine hK20 _ ?_
     refine Dz ?_
     refine Aj ?_
     try simp (disch:=(first | assumption | omega)) only [amL,sF,↓reduceIte]
     first
       | (unfold Bg8; rw [if_neg (by assumption)]; done)
       | (unfold Bg8; rw [if_pos (by omega),if_pos (by assumption)]; done)
       | (unfold Bg8; rw [if_pos (by omega),if_neg (by omega),if_pos (by assumption)]; done)
       | (unfold Bg8; rw [if_pos (by omega),if_neg (by omega),if_neg (by rw [hral]; decide),hb,if_neg (fun e=>Bool.noConfusion ((show f2=false by assumption).symm.trans e))]; done)
       | (unfold Bg8; rw [if_pos (by omega),if_neg (by omega),if_neg (by rw [hral]; decide),hb,if_pos (by assumption)]; done)
       | trace_state
theorem Bj3 {v:List Liq} {f:Bool} {l:List Bnd} {k:Nat}:∀ i,i≤l.length→(Bke v f l i).getD k default=if k < i then Bpk (l.getD k default) (v.getD k default) (Q7 (v.getD k default)) f else l.getD k default
 | 0,_=>by rw [if_neg (by omega)]; rfl
 | i+1,h=>by
  have hs:∀ (m:List Bnd) (x:Bnd),i < m.length→(m.set i x).getD k default=if k=i then x else m.getD k default:=fun m x hm=>by
   rw [List.getD_eq_getElem?_getD,List.getD_eq_getElem?_getD,List.getElem?_set]
   by_cases e:i=k
   ·subst e; simp [hm]
   ·rw [if_neg e,if_neg (fun h=>e h.symm)]
  show ((Bke v f l i).set i _).getD k default=_
  rw [hs _ _ (by rw [Bix]; omega)]
  by_cases e:k=i
  ·subst e
   rw [if_pos rfl,if_pos (by omega),Bj3 k (by omega),if_neg (by omega)]
  ·rw [if_neg e,Bj3 i (by omega)]
   by_cases e2:k < i
   ·rw [if_pos e2,if_pos (by omega)]
   ·rw [if_neg e2,if_neg (by omega)]
def IsB (P:List Liq→Prop) (k:Nat) (x:Bnd):Prop:=
 IsW (fun y=>∃ v,P v∧(B6 v k).g=y) x.g∧IsW (fun y=>∃ v,P v∧(B6 v k).e=y) x.e∧IsW (fun y=>∃ v,P v∧Q7 (B6 v k)=y) x.k
theorem Bkp {P Q:List Liq→Prop} {k:Nat} {x:Bnd} (h:IsB P k x) (e:∀ v,P v↔Q v):IsB Q k x:=by
 have:P=Q:=funext fun v=>propext (e v)
 rw [← this]; exact h
theorem Bk0 {n:Nat}:∀ (L:List (List Liq)) (s:List Bnd × Bool) (P:List Liq→Prop),s.1.length=n→((s.2=true∧∀ w,¬ P w)∨(s.2=false∧∀ k,k < n→IsB P k (s.1.getD k default))) →
  (Blz n s L).1.length=n∧(((Blz n s L).2=true∧∀ w,¬ (P w∨w ∈ L))∨((Blz n s L).2=false∧∀ k,k < n→IsB (fun w=>P w∨w ∈ L) k ((Blz n s L).1.getD k default)))
 | [],s,P,hl,h=>⟨hl,h.imp (fun h=>⟨h.1,fun w hw=>h.2 w (hw.elim id (by simp))⟩) fun h=>⟨h.1,fun k hk=>Bkp (h.2 k hk) fun v=>⟨.inl,fun h=>h.elim id (by simp)⟩⟩⟩
 | v :: L,s,P,hl,h=>by
  have hb:(Bkg n s v).1.1.length=n:=(Bix n).trans hl
  have ih:=Bk0 L (Bkg n s v).1 (fun w=>P w∨w=v) hb (.inr ⟨rfl,fun k hk=>by
   show IsB _ k ((Bke v s.2 s.1 n).getD k default)
   rw [Bj3 n (by omega),if_pos hk]
   rcases h with ⟨h1,h2⟩ | ⟨h1,h2⟩
   ·rw [h1]
    have e:∀ (f:List Liq→Int) (y:Int),y=f v↔∃ w,(P w∨w=v)∧f w=y:=fun f y=>
     ⟨fun h=>⟨v,.inr rfl,h.symm⟩,fun ⟨w,h3,h4⟩=>by
      rcases h3 with h3 | h3
      ·exact absurd h3 (h2 w)
      ·rw [← h4,h3]⟩
    exact ⟨(Bjn _).congr (e fun w=>(B6 w k).g),(Bjn _).congr (e fun w=>(B6 w k).e),(Bjn _).congr (e fun w=>Q7 (B6 w k))⟩
   ·rw [h1]
    obtain ⟨a1,a2,a3⟩:=h2 k hk
    have e:∀ (f:List Liq→Int) (y:Int),((∃ w,P w∧f w=y)∨y=f v)↔∃ w,(P w∨w=v)∧f w=y:=fun f y=>
     ⟨fun h=>h.elim (fun ⟨w,h3,h4⟩=>⟨w,.inl h3,h4⟩) fun h=>⟨v,.inr rfl,h.symm⟩,fun ⟨w,h3,h4⟩=>by
      rcases h3 with h3 | h3
      ·exact .inl ⟨w,h3,h4⟩
      ·right; rw [← h4,h3]⟩
    exact ⟨(Bjl a1 _).congr (e fun w=>(B6 w k).g),(Bjl a2 _).congr (e fun w=>(B6 w k).e),(Bjl a3 _).congr (e fun w=>Q7 (B6 w k))⟩⟩)
  have hc:∀ w,((P w∨w=v)∨w ∈ L)↔(P w∨w ∈ v :: L):=fun w=>by rw [List.mem_cons,or_assoc]
  refine ⟨ih.1,ih.2.imp (fun h=>⟨h.1,fun w hw=>h.2 w ((hc w).2 hw)⟩) fun h=>⟨h.1,fun k hk=>Bkp (h.2 k hk) hc⟩⟩
theorem Bkz {b:Ed} {v:List Liq}:v ∈ Bhi b↔∃ x ∈ Bha (Fy b) [],Bhv b x=true∧v=Bhe b x:=by
 constructor
 ·intro h
  exact Bih (P:=fun v=>∃ x ∈ Bha (Fy b) [],Bhv b x=true∧v=Bhe b x) _ _ _ (fun x hx he=>⟨x,hx,he,rfl⟩) v h
 ·rintro ⟨x,h1,h2,rfl⟩
  rcases Bh9 (b:=b) _ v0 true h1 h2 with h | h
  ·exact h
  ·exact absurd h.1 (by decide)
theorem Bh1 {b:Ed} (hv:Pb b) {v:List Liq}:Bk5 b v↔∃ w,w ∈ Bhi b∧v=w.take b.vs.length:=by
 rw [Bn8 hv]
 constructor
 ·rintro ⟨x,h1,h2,h3⟩; exact ⟨_,Bkz.2 ⟨x,h1,h2,rfl⟩,h3⟩
 ·rintro ⟨w,h1,rfl⟩
  obtain ⟨x,h3,h4,rfl⟩:=Bkz.1 h1
  exact ⟨x,h3,h4,rfl⟩
theorem Bi8 {b:Ed} (hv:Pb b):(∀ w,¬ w ∈ Bhi b)↔Bhj b=[]:=by
 rw [List.eq_nil_iff_forall_not_mem]
 constructor
 ·intro h v hv2
  obtain ⟨w,h1,_⟩:=(Bh1 hv).1 ((Bia hv).1 hv2)
  exact h w h1
 ·intro h w hw
  exact h _ ((Bia hv).2 ((Bh1 hv).2 ⟨w,hw,rfl⟩))
theorem Boy {b:Ed} (hv:Pb b) {k:Nat} (hk:k < b.vs.length) (f:Liq→Int) (y:Int):(∃ v,v ∈ Bhi b∧f (B6 v k)=y)↔Bli b k f y:=by
 constructor
 ·rintro ⟨w,h1,h2⟩
  exact ⟨_,(Bh1 hv).2 ⟨w,h1,rfl⟩,by rw [Bhn hk]; exact h2⟩
 ·rintro ⟨v,h1,h2⟩
  obtain ⟨w,h3,rfl⟩:=(Bh1 hv).1 h1
  exact ⟨w,h3,by rw [Bhn hk] at h2; exact h2⟩
def Bhf (b:Ed) (i:Nat):Bnd:=⟨Blc ((Bhj b).map fun v=>(B6 v i).g),Blc ((Bhj b).map fun v=>(B6 v i).e),Blc ((Bhj b).map fun v=>Q7 (B6 v i))⟩
def Bin (b:Ed):List Bnd:=(List.range b.vs.length).map (Bhf b)
theorem Bg2 (b:Ed):(Bin b).length=b.vs.length:=by simp [Bin]
theorem Blv {b:Ed} {i:Nat} (h:i < b.vs.length):(Bin b).getD i default=Bhf b i:=by simp [Bin,h,List.getD]
theorem Bkb {b:Ed} (hv:Pb b) (h:Bhj b≠[]) (i:Nat):IsW (Bli b i (·.g)) (Bhf b i).g∧IsW (Bli b i (·.e)) (Bhf b i).e∧IsW (Bli b i Q7) (Bhf b i).k:=
 ⟨Bj4 hv h i (·.g),Bj4 hv h i (·.e),Bj4 hv h i Q7⟩
theorem Bjy {b:Ed} (hf:B5 b=0):Bhp b=if Bhj b=[] then .tup [C4,i64 9] else .tup [.p (.sl ((Bin b).map Bhm)),i64 0]:=by
 have hv:=Aa9 hf
 obtain ⟨h1,h2⟩:=Bk0 (Bhi b) (List.replicate b.vs.length default,true) (fun _=>False) List.length_replicate (.inl ⟨rfl,fun _=>id⟩)
 unfold Bhp
 rw [if_pos hf]
 generalize Blz b.vs.length (List.replicate b.vs.length default,true) (Bhi b)=r at h1 h2
 obtain ⟨l,f⟩:=r
 rcases h2 with ⟨h2,h3⟩ | ⟨h2,h3⟩
 ·have h2:f=true:=h2
  subst h2
  rw [if_pos ((Bi8 hv).1 fun w hw=>h3 w (.inr hw))]
 ·have h2:f=false:=h2
  subst h2
  have hne:Bhj b≠[]:=fun he=>by
   have h0:=(Bi8 hv).2 he
   obtain ⟨v,hv0,_⟩:=(h3 0 (Af1 hf).2.2.1).1.1
   exact h0 v (hv0.elim False.elim id)
  rw [if_neg hne]
  have hl:l=Bin b:=by
   refine List.ext_getElem (by rw [Bg2]; exact h1) fun k hk1 hk2=>?_
   have hk:k < b.vs.length:=by rw [Bg2] at hk2; exact hk2
   obtain ⟨a1,a2,a3⟩:=h3 k hk
   obtain ⟨b1,b2,b3⟩:=Bkb hv hne k
   have c:∀ (f:Liq→Int) (y:Int),(∃ v,(False∨v ∈ Bhi b)∧f (B6 v k)=y)↔Bli b k f y:=fun f y=>by
    rw [← Boy hv hk]
    exact ⟨fun ⟨v,h4,h5⟩=>⟨v,h4.elim False.elim id,h5⟩,fun ⟨v,h4,h5⟩=>⟨v,.inr h4,h5⟩⟩
   have e1:=(a1.congr (c (·.g))).unique b1
   have e2:=(a2.congr (c (·.e))).unique b2
   have e3:=(a3.congr (c Q7)).unique b3
   have g1:l[k]=l.getD k default:=by simp [List.getD,hk1]
   have g2:(Bin b)[k]=Bhf b k:=by rw [← Blv hk]; simp [List.getD,hk2]
   rw [g1,g2]
   dsimp only at e1 e2 e3
   generalize l.getD k default=x at *
   generalize Bhf b k=y at *
   cases x; cases y
   dsimp only at e1 e2 e3
   rw [e1,e2,e3]
  rw [hl]
theorem Bg9 {b:Ed} {i:Nat} (h:i < b.vs.length):((Bin b).map Bhm).getD i []=[iv (Bhf b i).g.lo,iv (Bhf b i).g.hi,iv (Bhf b i).e.lo,iv (Bhf b i).e.hi,iv (Bhf b i).k.lo,iv (Bhf b i).k.hi]:=by
 rw [Bib (by rw [Bg2]; exact h),Blv h]; rfl
theorem Bg7 (b:Ed):((Bin b).map Bhm).length=b.vs.length:=by rw [List.length_map,Bg2]
theorem Bps {b:Ed} (hz:b.vs.length < 1000000∧b.ss.length < 1000000) (hf:B5 b=0) (he:Bhj b=[]):Bv Try.prog 41 [avB b] (.tup [C4,i64 9]):=by
 have h:=Bll b hz.1 hz.2
 rwa [Bjy hf,if_pos he] at h
theorem Bpn {b:Ed} (hz:b.vs.length < 1000000∧b.ss.length < 1000000) (hf:B5 b=0) (he:¬ Bhj b=[]):Bv Try.prog 41 [avB b] (.tup [.p (.sl ((Bin b).map Bhm)),i64 0]):=by
 have h:=Bll b hz.1 hz.2
 rwa [Bjy hf,if_neg he] at h
theorem Bno {b:Ed} (hv:Pb b) {l:List Rdg} (hr:∀ r ∈ l,Bhw b.vs.length r=true) (o:List Int):Bi3 (· ∈ Bhi b) l o↔Bi3 (Bk5 b) l o:=by
 constructor
 ·rintro ⟨w,h1,rfl⟩
  exact ⟨w.take b.vs.length,(Bh1 hv).2 ⟨w,h1,rfl⟩,(Bkw hr).symm⟩
 ·rintro ⟨v,h1,rfl⟩
  obtain ⟨w,h2,rfl⟩:=(Bh1 hv).1 h1
  exact ⟨w,h2,Bkw hr⟩
def Bkq (b:Ed) (l:List Rdg):Int:=if B5 b=0 then if 4 < (l.length:Int) then 3 else if l.all (Bhw b.vs.length)=true then 0 else 2 else B5 b
def Bhq (b:Ed) (l:List Rdg):Int:=if Bkq b l=0 then if Bhj b=[] then 9 else 0 else Bkq b l
theorem Bmt {b:Ed} {l:List Rdg} (h:Bkq b l=0):B5 b=0∧l.length≤4∧l.all (Bhw b.vs.length)=true:=by
 unfold Bkq at h
 split at h
 ·rename_i hf
  split at h
  ·cases h
  ·rename_i h4
   split at h
   ·rename_i ha; exact ⟨hf,by omega,ha⟩
   ·cases h
 ·rename_i hf; exact absurd h hf
theorem Bju {b:Ed} (hv:Pb b):Bhj b=[]↔Bhi b=[]:=by
 rw [← Bi8 hv,List.eq_nil_iff_forall_not_mem]
theorem Blp {b:Ed} {l:List Rdg} (h:Bhq b l=0):(Bhu l ([],false) (Bhi b)).2=true∧Bh2 (Bi3 (Bk5 b) l) (Bhu l ([],false) (Bhi b)).1:=by
 unfold Bhq at h
 split at h
 ·rename_i h0
  split at h
  ·cases h
  ·rename_i he
   obtain ⟨hf,h4,ha⟩:=Bmt h0
   have hv:=Aa9 hf
   obtain ⟨h1,h2⟩:=Bnx (l:=l) (fun e=>he ((Bju hv).2 e))
   exact ⟨h1,h2.congr (Bno hv (List.all_eq_true.1 ha))⟩
 ·rename_i h0; exact absurd h h0
def Bj0 (b:Ed) (l:List Rdg):List Int:=(Bhu l ([],false) (Bhi b)).1
theorem Ble {b:Ed} {l:List Rdg} (h:Bhq b l=0):Bh2 (Bi3 (Bk5 b) l) (Bj0 b l):=(Blp h).2
theorem Bkr (b:Ed) (l:List Rdg):Bg8 b l=if Bhq b l=0 then .tup [isl (Bj0 b l),i64 0] else .tup [C4,i64 (Bhq b l)]:=by
 by_cases h:Bhq b l=0
 ·rw [if_pos h]
  have hb:=Blp h
  unfold Bhq at h
  split at h
  ·rename_i h0
   obtain ⟨hf,h4,ha⟩:=Bmt h0
   unfold Bg8
   rw [if_pos hf,if_neg (by omega),if_neg (by rw [ha]; decide),if_pos hb.1]; rfl
  ·rename_i h0; exact absurd h h0
 ·rw [if_neg h]
  unfold Bg8 Bhq Bkq at *
  by_cases hf:B5 b=0
  ·simp only [if_pos hf] at *
   by_cases h4:4 < (l.length:Int)
   ·simp only [if_pos h4]; rfl
   ·simp only [if_neg h4] at *
    cases ha:l.all (Bhw b.vs.length) with
    | false=>simp
    | true=>
     simp only [ha,if_true] at h ⊢
     by_cases he:Bhj b=[]
     ·have e:Bhi b=[]:=(Bju (Aa9 hf)).1 he
      rw [e]; simp [Bhu,he]
     ·exact absurd (if_neg he) h
  ·simp only [if_neg hf]
theorem Bpo {b:Ed} {l:List Rdg} {w:Int} (hz:b.vs.length < 1000000∧b.ss.length < 1000000) (hl:l.length < 1000000) (h:Bhq b l=w) (hw:¬ w=0):Bv Try.prog 36 [avB b,.p (.sl (l.map Biq))] (.tup [C4,i64 w]):=by
 have h2:=Bm1 b l hz.1 hz.2 hl
 rwa [Bkr,h,if_neg hw] at h2
theorem Bpp {b:Ed} {l:List Rdg} (hz:b.vs.length < 1000000∧b.ss.length < 1000000) (hl:l.length < 1000000) (h:Bhq b l=0):Bv Try.prog 36 [avB b,.p (.sl (l.map Biq))] (.tup [isl (Bj0 b l),i64 0]):=by
 have h2:=Bm1 b l hz.1 hz.2 hl
 rwa [Bkr,if_pos h] at h2
def Bjp (r s:Rng):Bool:=decide (s.lo≤r.lo)&&decide (r.hi≤s.hi)
theorem Bja (r s:Rng):Bv Try.prog 47 [avR r,avR s] (bl (Bjp r s)):=by
  refine Bo (v:=[]) (q:=[]) (N:=17) (rs:=[.tmp 4]) Try.func47 rfl rfl rfl rfl rfl ?_
  refine Ab fun K1 hK1=>?_
  refine Ah ?_
  simp (disch:=omega) only [amL,sA,sB,sF,↓reduceIte,reduceCtorEq]
  refine hK1 _ ?_
  refine Ab fun K2 hK2=>?_
  refine Ah ?_
  simp (disch:=omega) only [amL,amT,sA,sF,↓reduceIte,reduceCtorEq]
  repeat' first | (refine Eo (fun h=>?_) (fun h=>?_) <;> simp (disch:=omega) only [h,amL,amT,sA,sF,↓reduceIte,reduceCtorEq]) | (refine Cy (fun h=>?_) (fun h=>?_) <;> simp (disch:=omega) only [h,amL,amT,sA,sB,sC,sD,sE,sF,sG,sH,sI,sJ,sK,sL,sM,sN,sO,↓reduceIte,reduceCtorEq])
  all_goals
   skip
   refine hK2 _ ?_
   refine Aj ?_
   try simp (disch:=omega) only [amL,↓reduceIte]
   all_goals first | (unfold Bjp; rw [decide_eq_true (show s.lo≤r.lo by omega)]; rfl) | (unfold Bjp; rw [decide_eq_false (show ¬ s.lo≤r.lo by omega)]; rfl) | trace_state
theorem Bnl {r s:Rng} (h:s.lo≤r.lo∧r.hi≤s.hi):Bjp r s=true:=by unfold Bjp; rw [decide_eq_true h.1,decide_eq_true h.2]; rfl
theorem Bj8 {w n:Nat} (_:0 < n):(w:Int).tmod n=((w % n:Nat):Int):=by
  rw [Int.tmod_eq_emod_of_nonneg (by omega)]; omega
theorem Bo9 {w n:Nat}:(w:Int).tdiv n=((w / n:Nat):Int):=by
  rw [Int.tdiv_eq_ediv_of_nonneg (by omega)]; omega
theorem Bg3 (l:List Stp):((l.map P7).all fun c=>decide (c.length=5))=true:=by simp
theorem Bg4 (l:List Ves):((l.map Ae7).all fun c=>decide (c.length=5))=true:=by simp
theorem Bg5 {S:List Ves} {k:Nat} {a b c d e:Int}:(S.map Ae7).set k [iv a,iv b,iv c,iv d,iv e]=(S.set k ⟨⟨a,b⟩,⟨c,d⟩,e⟩).map Ae7:=by rw [List.map_set]
theorem Bg6 {S:List Stp} {k:Nat} {a b c d e:Int}:(S.map P7).set k [iv a,iv b,iv c,iv d,iv e]=(S.set k ⟨a,b,c,⟨d,e⟩⟩).map P7:=by rw [List.map_set]
theorem Bhb {S:List Ves} {k:Nat} {a:Ves} (h:k < S.length):(S.set k a).getD k default=a:=by
  rw [List.getD_eq_getElem?_getD,List.getElem?_set_self h]; rfl
theorem Bhc {S:List Stp} {k:Nat} {a:Stp} (h:k < S.length):(S.set k a).getD k default=a:=by
  rw [List.getD_eq_getElem?_getD,List.getElem?_set_self h]; rfl
theorem Bow {h:Int} (h1:-9223372036854775808≤h) (h2:h≤9223372036854775807):∃ m,IntKind.i64.wrap (99 - h)=m∧(m=99 - h∨m < 0)∧(if (if 0 < m then m else 0) < 99 then (if 0 < m then m else 0) else 99)≤99∧0≤(if (if 0 < m then m else 0) < 99 then (if 0 < m then m else 0) else 99)∧h+(if (if 0 < m then m else 0) < 99 then (if 0 < m then m else 0) else 99)≤9223372036854775807:=by
  by_cases e:-9223372036854775708≤h
  · refine ⟨99 - h,Fc (by omega) (by omega),.inl rfl,?_⟩
    split <;> split <;> omega
  · have hw:IntKind.i64.wrap (99 - h)=99 - h - 18446744073709551616:=by
      simp only [IntKind.wrap,IntKind.signed,IntKind.bits]
      simp; omega
    refine ⟨_,hw,.inr (by omega),?_⟩
    split <;> split <;> omega
theorem Bnz {l:List Int} {g sp r q:Rng} (hl:l.length < 1000000) (h:r.lo≤r.hi) (h2:q.lo=r.lo) (h3:r.hi≤q.hi) :
    ∃ (e:Int) (a c:List Nat),a.length≤c.length∧Bv Try.prog 28 [isl l,avR g,avR sp,.p (.sl [Hy r])] (.tup [.p (.sl (a.map Asc)),i64 e])∧Bv Try.prog 28 [isl l,avR g,avR sp,.p (.sl [Hy q])] (.tup [.p (.sl (c.map Asc)),i64 e]):=by
  have k1:=Bbq l g sp [r] hl (by simp)
  have k2:=Bbq l g sp [q] hl (by simp)
  rcases Bng (l:=l) (g:=g) (sp:=sp) h h2 h3 with ⟨e,e1,e2⟩ | ⟨a,c,hac,e1,e2⟩
  · rw [e1] at k1; rw [e2] at k2
    exact ⟨e,[],[],Nat.le_refl _,k1.res_nil,k2.res_nil⟩
  · rw [e1] at k1; rw [e2] at k2
    exact ⟨0,a,c,hac,k1,k2⟩
theorem Bkc {b:Ed} {l:List Rdg} (hz:b.vs.length < 1000000∧b.ss.length < 1000000) (hl:l.length < 1000000):∃ u:List Int,(Bhq b l=0→u=Bj0 b l)∧(¬ Bhq b l=0→u=[])∧Bv Try.prog 36 [avB b,.p (.sl (l.map Biq))] (.tup [isl u,i64 (Bhq b l)]):=by
  by_cases h:Bhq b l=0
  · refine ⟨Bj0 b l,fun _=>rfl,fun e=>absurd h e,?_⟩
    have:=Bpp hz hl h
    rwa [h]
  · refine ⟨[],fun e=>absurd e h,fun _=>rfl,?_⟩
    exact (Bpo hz hl rfl h).res_nil
theorem Bk8 {b x:Ed} (h:Big b x) (hv:Pb b) (hx:Pb x) (he:¬ Bhj b=[]) (he2:¬ Bhj x=[]) (k:Nat):Bjp (Bhf b k).g (Bhf x k).g=true∧Bjp (Bhf b k).e (Bhf x k).e=true∧Bjp (Bhf b k).k (Bhf x k).k=true:=by
  obtain ⟨a1,a2,a3⟩:=Bkb hv he k
  obtain ⟨b1,b2,b3⟩:=Bkb hx he2 k
  exact ⟨Bnl (a1.wider b1 fun y hy=>Bk7 h hy),Bnl (a2.wider b2 fun y hy=>Bk7 h hy),Bnl (a3.wider b3 fun y hy=>Bk7 h hy)⟩
theorem Blf {b x:Ed} (h:Big b x) (hv:Pb b) (hx:Pb x) (he:¬ Bhj b=[]):¬ Bhj x=[]:=fun e=>by
  obtain ⟨v,h1⟩:=List.exists_mem_of_ne_nil _ he
  have:=(Bia hx).2 (Blb h ((Bia hv).1 h1))
  rw [e] at this; cases this
theorem Blt {b x:Ed} {l:List Rdg} (h:Big b x) (hf:B5 b=0) (hfx:B5 x=0) (he:¬ Bhj b=[]):Bhq x l=Bhq b l:=by
  have he2:=Blf h (Aa9 hf) (Aa9 hfx) he
  unfold Bhq Bkq
  rw [if_pos hf,if_pos hfx,if_neg he,if_neg he2,h.nv]
theorem Bm2 {b x:Ed} {l:List Rdg} (h:Big b x) (hf:B5 b=0) (hfx:B5 x=0) (he:¬ Bhj b=[]) {u w:List Int} (hu:(Bhq b l=0→u=Bj0 b l)∧(¬ Bhq b l=0→u=[])) (hw:(Bhq x l=0→w=Bj0 x l)∧(¬ Bhq x l=0→w=[])):w.length≤u.length:=by
  have e:=Blt (l:=l) h hf hfx he
  by_cases h0:Bhq b l=0
  · rw [hu.1 h0,hw.1 (e.trans h0)]
    exact Bnq (Ble h0) (Ble (e.trans h0)) fun v=>Blb h
  · rw [hw.2 (by rw [e]; exact h0)]; exact Nat.zero_le _
def bnL (b:Ed):AV:=if Bhj b=[] then C4 else .p (.sl ((Bin b).map Bhm))
def bnE (b:Ed):Int:=if Bhj b=[] then 9 else 0
theorem Bmn {b:Ed} (hz:b.vs.length < 1000000∧b.ss.length < 1000000) (hf:B5 b=0):Bv Try.prog 41 [avB b] (.tup [bnL b,i64 (bnE b)]):=by
  unfold bnL bnE
  by_cases he:Bhj b=[]
  · rw [if_pos he,if_pos he]; exact Bps hz hf he
  · rw [if_neg he,if_neg he]; exact Bpn hz hf he
theorem c_wortWider (b:Ed) (wch by_:Nat) (r:Rdg) (l:List Int) (g sp br:Rng) (_:Anl b) (hw:wch < 256) (hby:by_ < 256) (_:Bes r) (_:∀ m ∈ l,inR m=true) (_:Zc g) (_:Zc sp) (hbI:Zc br):Bv Try.prog 8 [avB b,.p (.val (.int .u8 wch)),.p (.val (.int .u8 by_)),avD r,isl l,avR g,avR sp,avR br] (bl true):=by
  refine Bo (v:=[28,46]) (q:=[]) (N:=297) (rs:=[.tmp 16]) Try.func8 rfl rfl rfl rfl rfl ?_
  cases hq:Bj2 b
  case' true=>
    by_cases hll:15 < (l.length:Int)
    case' neg=>
      by_cases hbr:br.hi < br.lo
      case' neg=>
        have hth:Bjc b ⟨[],[],[]⟩=true:=by simp [Bj2] at hq; exact hq.1
        have hf:B5 b=0:=by simp [Bj2] at hq; exact hq.2
        have hz:=Bor hth
        have hv:=Aa9 hf
        have hn0:=(Af1 hf).2.2.1
        have hnv:=hv.nv
        have hns:=hv.ns
        have hbI2:-9223372036854775808≤br.hi∧br.hi≤9223372036854775807:=by have:=hbI.2; simpa only [inR,Bool.and_eq_true,decide_eq_true_eq] using this
        obtain ⟨m99,hm99,_,hm1,hm2,hm3⟩:=Bow hbI2.1 hbI2.2
        obtain ⟨m0,hm0⟩:∃ m0,m0=(if (if 0 < m99 then m99 else 0) < 99 then (if 0 < m99 then m99 else 0) else 99):=⟨_,rfl⟩
        rw [← hm0] at hm1 hm2 hm3
        have hm0s:=hm0.symm
        obtain ⟨me,ma,mc,hmac,hM1,hM2⟩:=Bnz (l:=l) (g:=g) (sp:=sp) (r:=br) (q:=⟨br.lo,br.hi+m0⟩) (by omega) (by omega) rfl (by dsimp only; omega)
        have hmacI:¬ ((mc.length:Int) < ma.length):=by omega
        obtain ⟨c4,hc4⟩:∃ c:Int,c=((wch % 4:Nat):Int):=⟨_,rfl⟩
        have hm4:(wch:Int).tmod 4=c4:=by rw [hc4]; exact Bj8 (n:=4) (by decide)
        have hd4:(wch:Int).tdiv 4=((wch / 4:Nat):Int):=Bo9 (n:=4)
        obtain ⟨j,hj⟩:∃ j,j=wch / 4 % b.vs.length:=⟨_,rfl⟩
        have hjl:j < b.vs.length:=by rw [hj]; exact Nat.mod_lt _ hn0
        have hmj:((wch / 4:Nat):Int).tmod (b.vs.length:Int)=(j:Int):=by rw [hj]; exact Bj8 hn0
        have hb1:(by_:Int).tmod 2=((by_ % 2:Nat):Int):=Bj8 (n:=2) (by decide)
        have hb2:(by_:Int).tdiv 2=((by_ / 2:Nat):Int):=Bo9 (n:=2)
        have hb3:((by_ / 2:Nat):Int).tmod 2=((by_ / 2 % 2:Nat):Int):=Bj8 (n:=2) (by decide)
        have hvj:=hv.ves hjl
        obtain ⟨q1,q2,_⟩:=Da hvj
        have q1:=C9 q1
        have q2:=C9 q2
        by_cases w0:c4=0
        case' neg=>by_cases w1:1 < c4∧0 < (b.ss.length:Int)
  all_goals
    first
    | (have w0:c4=0:=w0
       obtain ⟨vsX,hvs⟩:∃ v,v=b.vs.set j ⟨(b.vs.getD j default).g,Bm4 (b.vs.getD j default).d by_,(b.vs.getD j default).room⟩:=⟨_,rfl⟩
       obtain ⟨ssX,hss⟩:∃ s,s=b.ss:=⟨_,rfl⟩
       have hW:Big b ⟨vsX,ssX⟩:=by
         rw [hvs,hss]; exact Bof hjl rfl ⟨⟨Int.le_refl _,Int.le_refl _⟩,Bk6 q2.1⟩
       have hTv:List.take b.vs.length (List.map Ae7 (b.vs.set j ⟨⟨(b.vs.getD j default).g.lo,(b.vs.getD j default).g.hi⟩,⟨if 0 < (b.vs.getD j default).d.lo - ((by_ % 2:Nat):Int) then (b.vs.getD j default).d.lo - ((by_ % 2:Nat):Int) else 0,(b.vs.getD j default).d.hi+((by_ / 2 % 2:Nat):Int)⟩,(b.vs.getD j default).room⟩))=vsX.map Ae7:=(List.take_of_length_le (by simp)).trans (by subst hvs; rfl)
       have hTs:List.take b.ss.length (List.map P7 b.ss)=ssX.map P7:=(List.take_of_length_le (by simp)).trans (by subst hss; rfl)
       have w1:=w0
       have w2:=w0
       have hmk:=w0; have hmk2:=w0)
    | (obtain ⟨w1,w2⟩:=w1
       obtain ⟨k,hk⟩:∃ k,k=wch / 4 % b.ss.length:=⟨_,rfl⟩
       have hkl:k < b.ss.length:=by rw [hk]; exact Nat.mod_lt _ (by omega)
       have hmk:((wch / 4:Nat):Int).tmod (b.ss.length:Int)=(k:Int):=by rw [hk]; exact Bj8 (by omega)
       have hmk2:((wch / 4:Nat):Int) % (b.ss.length:Int)=(k:Int):=by rw [hk,Int.natCast_emod]
       have hsk:=hv.stp hkl
       have q3:=C9 (Fq hsk).2.2.2.2
       obtain ⟨vsX,hvs⟩:∃ v,v=b.vs:=⟨_,rfl⟩
       obtain ⟨ssX,hss⟩:∃ s,s=b.ss.set k ⟨(b.ss.getD k default).kind,(b.ss.getD k default).frm,(b.ss.getD k default).to,Bm4 (b.ss.getD k default).g by_⟩:=⟨_,rfl⟩
       have hW:Big b ⟨vsX,ssX⟩:=by
         rw [hvs,hss]; exact Bpi hkl rfl (Bk6 q3.1)
       have hTv:List.take b.vs.length (List.map Ae7 b.vs)=vsX.map Ae7:=(List.take_of_length_le (by simp)).trans (by subst hvs; rfl)
       have hTs:List.take b.ss.length (List.map P7 (b.ss.set k ⟨(b.ss.getD k default).kind,(b.ss.getD k default).frm,(b.ss.getD k default).to,⟨if 0 < (b.ss.getD k default).g.lo - ((by_ % 2:Nat):Int) then (b.ss.getD k default).g.lo - ((by_ % 2:Nat):Int) else 0,(b.ss.getD k default).g.hi+((by_ / 2 % 2:Nat):Int)⟩⟩))=ssX.map P7:=(List.take_of_length_le (by simp)).trans (by subst hss; rfl))
    | (obtain ⟨vsX,hvs⟩:∃ v,v=b.vs.set j ⟨Bm4 (b.vs.getD j default).g by_,(b.vs.getD j default).d,(b.vs.getD j default).room⟩:=⟨_,rfl⟩
       obtain ⟨ssX,hss⟩:∃ s,s=b.ss:=⟨_,rfl⟩
       have hW:Big b ⟨vsX,ssX⟩:=by
         rw [hvs,hss]; exact Bof hjl rfl ⟨Bk6 q1.1,⟨Int.le_refl _,Int.le_refl _⟩⟩
       have hTv:List.take b.vs.length (List.map Ae7 (b.vs.set j ⟨⟨if 0 < (b.vs.getD j default).g.lo - ((by_ % 2:Nat):Int) then (b.vs.getD j default).g.lo - ((by_ % 2:Nat):Int) else 0,(b.vs.getD j default).g.hi+((by_ / 2 % 2:Nat):Int)⟩,⟨(b.vs.getD j default).d.lo,(b.vs.getD j default).d.hi⟩,(b.vs.getD j default).room⟩))=vsX.map Ae7:=(List.take_of_length_le (by simp)).trans (by subst hvs; rfl)
       have hTs:List.take b.ss.length (List.map P7 b.ss)=ssX.map P7:=(List.take_of_length_le (by simp)).trans (by subst hss; rfl)
       have w2:=w0
       have hmk:=w0; have hmk2:=w0)
    | skip
  all_goals
    first
    | (obtain ⟨x,hx⟩:∃ x:Ed,x=⟨vsX,ssX⟩:=⟨_,rfl⟩
       have hXv:vsX=x.vs:=by rw [hx]
       have hXs:ssX=x.ss:=by rw [hx]
       rw [← hx] at hW
       rw [hXv] at hTv
       rw [hXs] at hTs
       have hnx:=hW.nv
       have hsx:=hW.ns
       have hzx:x.vs.length < 1000000∧x.ss.length < 1000000:=by omega
       by_cases hfx:B5 x=0)
    | skip
  all_goals
    first
    | (have hvx:=Aa9 hfx
       obtain ⟨u,hu1,hu2,hu3⟩:=Bkc (b:=b) (l:=[r]) hz (by simp)
       obtain ⟨wl,hw1,hw2,hw3⟩:=Bkc (b:=x) (l:=[r]) hzx (by simp)
       by_cases he:Bhj b=[])
    | skip
  all_goals
    first
    | (have hA0:bnL b=C4:=if_pos he
       have hE0:bnE b=9:=if_pos he
       by_cases he2:Bhj x=[])
    | skip
  all_goals
    first
    | (have hA1:bnL x=C4:=if_pos he2
       have hE1:bnE x=9:=if_pos he2
       have hwt:=hA0; have hul:=hA0; have hB1:=hA0; have hB2:=hA0; have hB3:=hA0)
    | (have hA1:bnL x=.p (.sl ((Bin x).map Bhm)):=if_neg he2
       have hE1:bnE x=0:=if_neg he2
       have hwt:=hA0; have hul:=hA0; have hB1:=hA0; have hB2:=hA0; have hB3:=hA0)
    | (have he2:=Blf hW hv hvx he
       have hA0:bnL b=.p (.sl ((Bin b).map Bhm)):=if_neg he
       have hE0:bnE b=0:=if_neg he
       have hA1:bnL x=.p (.sl ((Bin x).map Bhm)):=if_neg he2
       have hE1:bnE x=0:=if_neg he2
       have hwt:=Blt (l:=[r]) hW hf hfx he
       have hul:¬ ((u.length:Int) < wl.length):=by have:=Bm2 hW hf hfx he ⟨hu1,hu2⟩ ⟨hw1,hw2⟩; omega
       have hB1:∀ k,Bjp (Bhf b k).g (Bhf x k).g=true:=fun k=>(Bk8 hW hv hvx he he2 k).1
       have hB2:∀ k,Bjp (Bhf b k).e (Bhf x k).e=true:=fun k=>(Bk8 hW hv hvx he he2 k).2.1
       have hB3:∀ k,Bjp (Bhf b k).k (Bhf x k).k=true:=fun k=>(Bk8 hW hv hvx he he2 k).2.2)
    | (have hB1:=hq; have hB2:=hq; have hB3:=hq; have hul:=hq; have hwt:=hq; have hA0:=hq; have hA1:=hq; have hE0:=hq; have hE1:=hq)
  all_goals
    first | (have hfx:=hfx) | (have hfx:=hq)
    first | (have hm4:=hm4) | (have hm4:=hq; have hd4:=hq; have hmj:=hq; have hb1:=hq; have hb2:=hq; have hb3:=hq; have hm99:=hq; have hm0s:=hq; have hTv:=hq; have hTs:=hq; have hmacI:=hq)
    first | (have w0:=w0) | (have w0:=hq; have w1:=hq; have w2:=hq; have hmk:=hq; have hmk2:=hq)
    first | (have hll:=hll) | (have hll:=hq)
    first | (have hbr:=hbr) | (have hbr:=hq)
    refine Ad fun K1 hK1=>?_
    simp (disch:=(first | omega | (simp only [List.length_set]; omega))) only [eq_self,decide_true,amL,sA,sB,sF,↓reduceIte,reduceCtorEq]
    refine hK1 _ ?_
    refine Ab fun K2 hK2=>?_
    refine Ad fun K3 hK3=>?_
    simp (disch:=(first | omega | (simp only [List.length_set]; omega))) only [eq_self,decide_true,amL,amT,sA,sB,sF,sG,↓reduceIte]
    repeat' first | (refine Eo (fun h=>?_) (fun h=>?_) <;> simp (disch:=(first | omega | (simp only [List.length_set]; omega))) only [h,W2,Bhs,AV.frz,AO.frz,AV.frz.frzL,hq,hll,hbr,hm4,hd4,hmj,hb1,hb2,hb3,w0,w1,w2,hmk,hmk2,hTv,hTs,hm99,hm0s,hmacI,hul,hwt,hA0,hA1,hE0,hE1,hB1,hB2,hB3,hfx,Bg4,Bg3,Di,X9,Bg5,Bg6,Bhb,Bhc,List.set_set,List.length_set,Bg9,Bg7,Bg2,ne_eq,eq_self,not_true_eq_false,decide_false,decide_true,List.length_map,amL,amT,sA,sB,sC,sD,sE,sF,sG,sH,sI,sJ,sK,sL,sM,sN,sO,↓reduceIte,reduceCtorEq]) | (refine Cy (fun h=>?_) (fun h=>?_) <;> simp (disch:=(first | omega | (simp only [List.length_set]; omega))) only [h,W2,Bhs,AV.frz,AO.frz,AV.frz.frzL,hq,hll,hbr,hm4,hd4,hmj,hb1,hb2,hb3,w0,w1,w2,hmk,hmk2,hTv,hTs,hm99,hm0s,hmacI,hul,hwt,hA0,hA1,hE0,hE1,hB1,hB2,hB3,hfx,Bg4,Bg3,Di,X9,Bg5,Bg6,Bhb,Bhc,List.set_set,List.length_set,Bg9,Bg7,Bg2,ne_eq,eq_self,not_true_eq_false,decide_false,decide_true,List.length_map,amL,amT,sA,sB,sC,sD,sE,sF,sG,sH,sI,sJ,sK,sL,sM,sN,sO,↓reduceIte,reduceCtorEq]) | (refine Ax (by kernel_rfl) rfl (Boo b) (by first | exact .inl rfl | exact .inr (.inl rfl)) ?_ ; simp (disch:=(first | omega | (simp only [List.length_set]; omega))) only [hq,hll,hbr,eq_self,decide_false,decide_true,List.length_map,amL,amT,sA,sF,↓reduceIte,reduceCtorEq])
    all_goals
     skip
     refine hK3 _ ?_
     refine Al rfl (fun h=>MT.x ?_) (fun h=>ME.x ?_)
     all_goals
      first
      |refine MT.mk ?_
       first
       |exact Bool.noConfusion h
       |((try simp only [] at h) ; exfalso ; omega)
       |skip
        try simp only [] at h
        refine Ad fun K4 hK4=>?_
        simp (disch:=(first | omega | (simp only [List.length_set]; omega))) only [amL,sG]
        repeat' first | (refine Ax (by kernel_rfl) rfl (Bgn) (by first | exact .inl rfl | exact .inr (.inl rfl)) ?_ ; simp (disch:=(first | omega | (simp only [List.length_set]; omega))) only [eq_self,decide_true,amL,sA,↓reduceIte])
        refine hK4 _ ?_
        refine Aj ?_
        try simp (disch:=(first | omega | (simp only [List.length_set]; omega))) only [eq_self,amL,↓reduceIte]
        all_goals first | rfl | (exfalso; omega) | trace_state
      |refine ME.mk ?_
       first
       |exact Bool.noConfusion h
       |((try simp only [] at h) ; exfalso ; omega)
       |skip
        try simp only [] at h
        refine Am ?_
        refine hK2 _ ?_
     all_goals
      skip
      refine Ad fun K5 hK5=>?_
      simp (disch:=(first | omega | (simp only [List.length_set]; omega))) only [eq_self,decide_true,amL,amT,sA,sB,sF,↓reduceIte]
      refine hK5 _ ?_
      refine Ab fun K6 hK6=>?_
      refine Aiw [] [50,51,52,53,54,55,56,57,58,59] (by kernel_rfl) (by kernel_rfl) rfl (by repeat' constructor) ?_
      simp (disch:=(first | omega | (simp only [List.length_set]; omega))) only [Bg4,Bg3,eq_self,decide_true,List.length_map,amL,amT,sA,sB,sE,sF,↓reduceIte,reduceCtorEq]
      refine hK6 _ ?_
      refine Ab fun K7 hK7=>?_
      refine Ch (by kernel_rfl) (by kernel_rfl) ?_
      simp (disch:=(first | omega | (simp only [List.length_set]; omega))) only [hd4,hmj,eq_self,decide_true,List.length_map,amL,amT,sA,sF,sO,↓reduceIte,reduceCtorEq]
      refine hK7 _ ?_
      refine Ad fun K8 hK8=>?_
      simp (disch:=(first | omega | (simp only [List.length_set]; omega))) only [eq_self,decide_true,amL,amT,sA,↓reduceIte,reduceCtorEq]
      refine hK8 _ ?_
      refine Ab fun K9 hK9=>?_
      refine Ad fun K10 hK10=>?_
      simp (disch:=(first | omega | (simp only [List.length_set]; omega))) only [hm4,w0,eq_self,decide_false,decide_true,amL,amT,sA,sF,sO,↓reduceIte,reduceCtorEq]
      refine hK10 _ ?_
      refine Al rfl (fun h=>MT.x ?_) (fun h=>ME.x ?_)
      all_goals
       first
       |refine MT.mk ?_
        first
        |exact Bool.noConfusion h
        |((try simp only [] at h) ; exfalso ; omega)
        |skip
         try simp only [] at h
         refine Ah ?_
         simp (disch:=(first | omega | (simp only [List.length_set]; omega))) only [eq_self,decide_true,amL,amT,sA,sF,↓reduceIte,reduceCtorEq]
         refine hK9 _ ?_
       |refine ME.mk ?_
        first
        |exact Bool.noConfusion h
        |((try simp only [] at h) ; exfalso ; omega)
        |skip
         try simp only [] at h
         refine Am ?_
         refine hK9 _ ?_
      all_goals
       skip
       refine Ab fun K11 hK11=>?_
       refine Ad fun K12 hK12=>?_
       simp (disch:=(first | omega | (simp only [List.length_set]; omega))) only [hm4,w0,w1,w2,eq_self,decide_false,decide_true,amL,amT,sA,sF,sK,sO,↓reduceIte,reduceCtorEq]
       repeat' first | (refine Eo (fun h=>?_) (fun h=>?_) <;> simp (disch:=(first | omega | (simp only [List.length_set]; omega))) only [h,eq_self,decide_false,decide_true,amL,amT,sA,sF,↓reduceIte,reduceCtorEq]) | (refine Cy (fun h=>?_) (fun h=>?_) <;> simp (disch:=(first | omega | (simp only [List.length_set]; omega))) only [h,W2,Bhs,AV.frz,AO.frz,AV.frz.frzL,hq,hll,hbr,hm4,hd4,hmj,hb1,hb2,hb3,w0,w1,w2,hmk,hmk2,hTv,hTs,hm99,hm0s,hmacI,hul,hwt,hA0,hA1,hE0,hE1,hB1,hB2,hB3,hfx,Bg4,Bg3,Di,X9,Bg5,Bg6,Bhb,Bhc,List.set_set,List.length_set,Bg9,Bg7,Bg2,ne_eq,eq_self,not_true_eq_false,decide_false,decide_true,List.length_map,amL,amT,sA,sB,sC,sD,sE,sF,sG,sH,sI,sJ,sK,sL,sM,sN,sO,↓reduceIte,reduceCtorEq])
       all_goals
        skip
        refine hK12 _ ?_
        refine Al rfl (fun h=>MT.x ?_) (fun h=>ME.x ?_)
        all_goals
         first
         |refine MT.mk ?_
          first
          |exact Bool.noConfusion h
          |((try simp only [nrm] at h) ; exfalso ; omega)
          |skip
           try simp only [] at h
           refine Ch (by kernel_rfl) (by kernel_rfl) ?_
           simp (disch:=(first | omega | (simp only [List.length_set]; omega))) only [hd4,hmk,eq_self,decide_true,List.length_map,amL,amT,sA,sF,sO,↓reduceIte,reduceCtorEq]
           refine hK11 _ ?_
         |refine ME.mk ?_
          first
          |exact Bool.noConfusion h
          |((try simp only [nrm] at h) ; exfalso ; omega)
          |skip
           try simp only [nrm] at h
           refine Am ?_
           refine hK11 _ ?_
        all_goals
         skip
         refine Ab fun K13 hK13=>?_
         refine Ch (by kernel_rfl) (by kernel_rfl) ?_
         simp (disch:=(first | omega | (simp only [List.length_set]; omega))) only [hb1,hb2,hb3,Di,X9,Bg5,Bg6,Bhb,Bhc,List.set_set,List.length_set,eq_self,decide_true,List.length_map,amL,amT,sA,sB,sE,sF,sO,↓reduceIte,reduceCtorEq]
         refine hK13 _ ?_
         refine Ab fun K14 hK14=>?_
         refine Blx 53 rfl ?_
         simp only [W2,Bhs,AV.frz,AO.frz,AV.frz.frzL,List.map_cons,List.map_nil,Nat.reduceEqDiff,if_false,if_true,Nat.le_refl,List.length_map,List.length_set]
         refine Blx 57 rfl ?_
         simp only [W2,Bhs,AV.frz,AO.frz,AV.frz.frzL,List.map_cons,List.map_nil,Nat.reduceEqDiff,if_false,if_true,Nat.le_refl,List.length_map,List.length_set]
         refine Ch (by kernel_rfl) (by kernel_rfl) ?_
         simp (disch:=(first | omega | (simp only [List.length_set]; omega))) only [hTv,hTs,eq_self,decide_true,amL,sA,sF,sG,↓reduceIte,reduceCtorEq]
         repeat' first | (refine Ax (by kernel_rfl) rfl (Bmk l (by omega)) (by first | exact .inl rfl | exact .inr (.inl rfl)) ?_ ; simp (disch:=(first | omega | (simp only [List.length_set]; omega))) only [eq_self,decide_true,amL,amT,sA,sB,sF,sG,↓reduceIte]) | (refine Ax (by kernel_rfl) rfl (Bkn _) (by first | exact .inl rfl | exact .inr (.inl rfl)) ?_ ; simp (disch:=(first | omega | (simp only [List.length_set]; omega))) only [eq_self,decide_true,amL,amT,sA,sB,sC,sE,sF,sG,↓reduceIte,reduceCtorEq])
         refine Aes (bd:=297) 132 rfl _ [(4,isl l),(8,.ptr 8 0),(11,.ptr 11 0),(13,.ptr 13 0),(14,.ptr 14 0),(15,.ptr 15 0),(17,.ptr 17 0)] Bjr (by decide) (V2 (by kernel_rfl) hM1) (Lg rfl) (by decide) (fun res os2 hR hcl2 hlv2=>?_)
         obtain ⟨rfl,rfl⟩:=hR
         simp (disch:=(first | omega | (simp only [List.length_set]; omega))) only [W2,Bhs,AV.frz,AO.frz,AV.frz.frzL,eq_self,decide_true,amL,sA,sF,↓reduceIte,reduceCtorEq]
         refine hK14 _ ?_
         refine Ab fun K15 hK15=>?_
         refine Ch (by kernel_rfl) (by kernel_rfl) ?_
         simp (disch:=(first | omega | (simp only [List.length_set]; omega))) only [eq_self,decide_true,amL,sA,sF,sG,↓reduceIte]
         repeat' first | (refine Ax (by kernel_rfl) rfl (Bmk l (by omega)) (by first | exact .inl rfl | exact .inr (.inl rfl)) ?_ ; simp (disch:=(first | omega | (simp only [List.length_set]; omega))) only [eq_self,decide_true,amL,amT,sA,sB,sF,sG,↓reduceIte]) | (refine Ax (by kernel_rfl) rfl (Bkn _) (by first | exact .inl rfl | exact .inr (.inl rfl)) ?_ ; simp (disch:=(first | omega | (simp only [List.length_set]; omega))) only [hm99,hm0s,eq_self,decide_true,amL,amT,sA,sB,sC,sE,sF,sG,↓reduceIte,reduceCtorEq])
         refine Aes (bd:=297) 154 rfl _ [(8,.ptr 8 0),(11,.ptr 11 0),(13,.ptr 13 0),(14,.ptr 14 0),(15,.ptr 15 0),(17,.ptr 17 0),(20,.p (.sl (ma.map Asc))),(21,i64 me)] Bjr (by decide) (V2 (by kernel_rfl) hM2) (Lg rfl) (by decide) (fun res os2 hR hcl2 hlv2=>?_)
         obtain ⟨rfl,rfl⟩:=hR
         simp (disch:=(first | omega | (simp only [List.length_set]; omega))) only [W2,Bhs,AV.frz,AO.frz,AV.frz.frzL,eq_self,decide_true,amL,sA,sF,↓reduceIte]
         refine hK15 _ ?_
         refine Ab fun K16 hK16=>?_
         refine Ad fun K17 hK17=>?_
         simp (disch:=(first | omega | (simp only [List.length_set]; omega))) only [hmacI,ne_eq,eq_self,not_true_eq_false,decide_false,decide_true,List.length_map,amL,amT,sA,sF,↓reduceIte]
         repeat' first | (refine Eo (fun h=>?_) (fun h=>?_) <;> simp (disch:=(first | omega | (simp only [List.length_set]; omega))) only [h,W2,Bhs,AV.frz,AO.frz,AV.frz.frzL,hq,hll,hbr,hm4,hd4,hmj,hb1,hb2,hb3,w0,w1,w2,hmk,hmk2,hTv,hTs,hm99,hm0s,hmacI,hul,hwt,hA0,hA1,hE0,hE1,hB1,hB2,hB3,hfx,Bg4,Bg3,Di,X9,Bg5,Bg6,Bhb,Bhc,List.set_set,List.length_set,Bg9,Bg7,Bg2,ne_eq,eq_self,not_true_eq_false,decide_false,decide_true,List.length_map,amL,amT,sA,sB,sC,sD,sE,sF,sG,sH,sI,sJ,sK,sL,sM,sN,sO,↓reduceIte,reduceCtorEq]) | (refine Cy (fun h=>?_) (fun h=>?_) <;> simp (disch:=(first | omega | (simp only [List.length_set]; omega))) only [h,W2,Bhs,AV.frz,AO.frz,AV.frz.frzL,hq,hll,hbr,hm4,hd4,hmj,hb1,hb2,hb3,w0,w1,w2,hmk,hmk2,hTv,hTs,hm99,hm0s,hmacI,hul,hwt,hA0,hA1,hE0,hE1,hB1,hB2,hB3,hfx,Bg4,Bg3,Di,X9,Bg5,Bg6,Bhb,Bhc,List.set_set,List.length_set,Bg9,Bg7,Bg2,ne_eq,eq_self,not_true_eq_false,decide_false,decide_true,List.length_map,amL,amT,sA,sB,sC,sD,sE,sF,sG,sH,sI,sJ,sK,sL,sM,sN,sO,↓reduceIte,reduceCtorEq])
         all_goals
          skip
          refine hK17 _ ?_
          refine Al rfl (fun h=>MT.x ?_) (fun h=>ME.x ?_)
          all_goals
           first
           |refine MT.mk ?_
            first
            |exact Bool.noConfusion h
            |((try simp only [nrm] at h) ; exfalso ; omega)
            |skip
             try simp only [nrm] at h
             refine Ad fun K18 hK18=>?_
             simp (disch:=(first | omega | (simp only [List.length_set]; omega))) only [W2,Bhs,AV.frz,AO.frz,AV.frz.frzL,hq,hll,hbr,hm4,hd4,hmj,hb1,hb2,hb3,w0,w1,w2,hmk,hmk2,hTv,hTs,hm99,hm0s,hmacI,hul,hwt,hA0,hA1,hE0,hE1,hB1,hB2,hB3,hfx,Bg4,Bg3,Di,X9,Bg5,Bg6,Bhb,Bhc,List.set_set,List.length_set,Bg9,Bg7,Bg2,ne_eq,eq_self,not_true_eq_false,decide_false,decide_true,List.length_map,amL,amT,sA,sB,sC,sD,sE,sF,sG,sH,sI,sJ,sK,sL,sM,sN,sO,↓reduceIte,reduceCtorEq]
             refine hK18 _ ?_
             refine Aj ?_
             try simp (disch:=(first | omega | (simp only [List.length_set]; omega))) only [W2,Bhs,AV.frz,AO.frz,AV.frz.frzL,hq,hll,hbr,hm4,hd4,hmj,hb1,hb2,hb3,w0,w1,w2,hmk,hmk2,hTv,hTs,hm99,hm0s,hmacI,hul,hwt,hA0,hA1,hE0,hE1,hB1,hB2,hB3,hfx,Bg4,Bg3,Di,X9,Bg5,Bg6,Bhb,Bhc,List.set_set,List.length_set,Bg9,Bg7,Bg2,ne_eq,eq_self,not_true_eq_false,decide_false,decide_true,List.length_map,amL,amT,sA,sB,sC,sD,sE,sF,sG,sH,sI,sJ,sK,sL,sM,sN,sO,↓reduceIte,reduceCtorEq]
             all_goals first | rfl | (exfalso; omega) | trace_state
           |refine ME.mk ?_
            first
            |exact Bool.noConfusion h
            |((try simp only [] at h) ; exfalso ; omega)
            |skip
             try simp only [] at h
             refine Am ?_
             refine hK16 _ ?_
          all_goals
           skip
           refine Ab fun K19 hK19=>?_
           refine Ad fun K20 hK20=>?_
           simp (disch:=(first | omega | (simp only [List.length_set]; omega))) only [eq_self,decide_true,amL,amT,sA,sB,sF,sG,↓reduceIte]
           repeat' first | (refine Ax (by kernel_rfl) rfl (Blm x hzx.1 hzx.2) (by first | exact .inl rfl | exact .inr (.inl rfl)) ?_ ; simp (disch:=(first | omega | (simp only [List.length_set]; omega))) only [hfx,ne_eq,eq_self,not_true_eq_false,decide_false,decide_true,amL,amT,sA,↓reduceIte])
           refine hK20 _ ?_
           refine Al rfl (fun h=>MT.x ?_) (fun h=>ME.x ?_)
           all_goals
            first
            |refine MT.mk ?_
             first
             |exact Bool.noConfusion h
             |((try simp only [] at h) ; exfalso ; omega)
             |skip
              try simp only [] at h
              refine Ad fun K21 hK21=>?_
              simp (disch:=(first | omega | (simp only [List.length_set]; omega))) only [amL,sG]
              repeat' first | (refine Ax (by kernel_rfl) rfl (Bgn) (by first | exact .inl rfl | exact .inr (.inl rfl)) ?_ ; simp (disch:=(first | omega | (simp only [List.length_set]; omega))) only [eq_self,decide_true,amL,sA,↓reduceIte])
              refine hK21 _ ?_
              refine Aj ?_
              try simp (disch:=(first | omega | (simp only [List.length_set]; omega))) only [eq_self,amL,↓reduceIte]
              all_goals first | rfl | (exfalso; omega) | trace_state
            |refine ME.mk ?_
             first
             |exact Bool.noConfusion h
             |((try simp only [] at h) ; exfalso ; omega)
             |skip
              try simp only [] at h
              refine Am ?_
              refine hK19 _ ?_
           all_goals
            skip
            refine Ad fun K22 hK22=>?_
            simp (disch:=(first | omega | (simp only [List.length_set]; omega))) only [eq_self,decide_true,amL,amT,sA,sB,sF,sG,↓reduceIte]
            repeat' first | (refine Ax (by kernel_rfl) rfl (by first | exact Bh4 b hz.1 hz.2 | exact Bh4 x hzx.1 hzx.2) (by first | exact .inl rfl | exact .inr (.inl rfl)) ?_ ; simp (disch:=(first | omega | (simp only [List.length_set]; omega))) only [eq_self,amL,sG,↓reduceIte]) | (refine Ax (by kernel_rfl) rfl (by first | exact Bmn hz hf | exact Bmn hzx hfx) (by first | exact .inl rfl | exact .inr (.inl rfl)) ?_ ; simp (disch:=(first | omega | (simp only [List.length_set]; omega))) only [hul,hA0,hE0,eq_self,decide_true,amL,sA,sF,↓reduceIte])
            refine hK22 _ ?_
            refine Ad fun K23 hK23=>?_
            simp (disch:=(first | omega | (simp only [List.length_set]; omega))) only [eq_self,decide_true,amL,amT,sA,sB,sF,sG,↓reduceIte]
            repeat' first | (refine Ax (by kernel_rfl) rfl (by first | exact Bh4 b hz.1 hz.2 | exact Bh4 x hzx.1 hzx.2) (by first | exact .inl rfl | exact .inr (.inl rfl)) ?_ ; simp (disch:=(first | omega | (simp only [List.length_set]; omega))) only [eq_self,amL,sG,↓reduceIte]) | (refine Ax (by kernel_rfl) rfl (by first | exact Bmn hz hf | exact Bmn hzx hfx) (by first | exact .inl rfl | exact .inr (.inl rfl)) ?_ ; simp (disch:=(first | omega | (simp only [List.length_set]; omega))) only [hA1,hE1,eq_self,decide_true,amL,sA,sF,↓reduceIte])
            refine hK23 _ ?_
            refine Ab fun K24 hK24=>?_
            refine Ch (by kernel_rfl) (by kernel_rfl) ?_
            simp (disch:=(first | omega | (simp only [List.length_set]; omega))) only [eq_self,decide_true,amL,amT,sA,sB,sF,sG,↓reduceIte]
            repeat' first | (refine Ax (by kernel_rfl) rfl (by first | exact Bh4 b hz.1 hz.2 | exact Bh4 x hzx.1 hzx.2) (by first | exact .inl rfl | exact .inr (.inl rfl)) ?_ ; simp (disch:=(first | omega | (simp only [List.length_set]; omega))) only [eq_self,decide_true,amL,amT,sA,sB,sC,sE,sF,sG,↓reduceIte,reduceCtorEq]) | (refine Ax (by kernel_rfl) rfl (by first | exact hu3 | exact hw3) (by first | exact .inl rfl | exact .inr (.inl rfl)) ?_ ; simp (disch:=(first | omega | (simp only [List.length_set]; omega))) only [W2,Bhs,AV.frz,AO.frz,AV.frz.frzL,hq,hll,hbr,hm4,hd4,hmj,hb1,hb2,hb3,w0,w1,w2,hmk,hmk2,hTv,hTs,hm99,hm0s,hmacI,hul,hwt,hA0,hA1,hE0,hE1,hB1,hB2,hB3,hfx,Bg4,Bg3,Di,X9,Bg5,Bg6,Bhb,Bhc,List.set_set,List.length_set,Bg9,Bg7,Bg2,ne_eq,eq_self,not_true_eq_false,decide_false,decide_true,List.length_map,amL,amT,sA,sB,sC,sD,sE,sF,sG,sH,sI,sJ,sK,sL,sM,sN,sO,↓reduceIte,reduceCtorEq])
            refine Aes (bd:=297) 188 rfl _ [(8,.ptr 8 0),(11,.ptr 11 0),(13,.ptr 13 0),(14,.ptr 14 0),(15,.ptr 15 0),(17,.ptr 17 0),(24,bnL b),(25,i64 (bnE b)),(26,bnL x),(27,i64 (bnE x)),(186,avB b)] Bjr (by decide) (V2 (by kernel_rfl) (Bmp [r] (by simp))) (Lg rfl) (by decide) (fun res os2 hR hcl2 hlv2=>?_)
            obtain ⟨rfl,rfl⟩:=hR
            simp (disch:=(first | omega | (simp only [List.length_set]; omega))) only [W2,Bhs,AV.frz,AO.frz,AV.frz.frzL,hul,hA0,hA1,hE0,hE1,eq_self,amL,sF,sG,↓reduceIte]
            refine Ax (by kernel_rfl) rfl hu3 (by first | exact .inl rfl | exact .inr (.inl rfl)) ?_
            simp (disch:=(first | omega | (simp only [List.length_set]; omega))) only [eq_self,decide_true,amL,sA,sF,↓reduceIte]
            refine hK24 _ ?_
            refine Ab fun K25 hK25=>?_
            refine Ch (by kernel_rfl) (by kernel_rfl) ?_
            simp (disch:=(first | omega | (simp only [List.length_set]; omega))) only [eq_self,decide_true,amL,amT,sA,sB,sF,sG,↓reduceIte]
            repeat' first | (refine Ax (by kernel_rfl) rfl (by first | exact Bh4 b hz.1 hz.2 | exact Bh4 x hzx.1 hzx.2) (by first | exact .inl rfl | exact .inr (.inl rfl)) ?_ ; simp (disch:=(first | omega | (simp only [List.length_set]; omega))) only [eq_self,decide_true,amL,amT,sA,sB,sC,sE,sF,sG,↓reduceIte,reduceCtorEq]) | (refine Ax (by kernel_rfl) rfl (by first | exact hu3 | exact hw3) (by first | exact .inl rfl | exact .inr (.inl rfl)) ?_ ; simp (disch:=(first | omega | (simp only [List.length_set]; omega))) only [W2,Bhs,AV.frz,AO.frz,AV.frz.frzL,hq,hll,hbr,hm4,hd4,hmj,hb1,hb2,hb3,w0,w1,w2,hmk,hmk2,hTv,hTs,hm99,hm0s,hmacI,hul,hwt,hA0,hA1,hE0,hE1,hB1,hB2,hB3,hfx,Bg4,Bg3,Di,X9,Bg5,Bg6,Bhb,Bhc,List.set_set,List.length_set,Bg9,Bg7,Bg2,ne_eq,eq_self,not_true_eq_false,decide_false,decide_true,List.length_map,amL,amT,sA,sB,sC,sD,sE,sF,sG,sH,sI,sJ,sK,sL,sM,sN,sO,↓reduceIte,reduceCtorEq])
            refine Aes (bd:=297) 197 rfl _ [(8,.ptr 8 0),(11,.ptr 11 0),(13,.ptr 13 0),(14,.ptr 14 0),(15,.ptr 15 0),(17,.ptr 17 0),(24,bnL b),(25,i64 (bnE b)),(26,bnL x),(27,i64 (bnE x)),(28,isl u),(29,i64 (Bhq b [r])),(195,avB x)] Bjr (by decide) (V2 (by kernel_rfl) (Bmp [r] (by simp))) (Lg rfl) (by decide) (fun res os2 hR hcl2 hlv2=>?_)
            obtain ⟨rfl,rfl⟩:=hR
            simp (disch:=(first | omega | (simp only [List.length_set]; omega))) only [W2,Bhs,AV.frz,AO.frz,AV.frz.frzL,hul,hA0,hA1,hE0,hE1,eq_self,amL,sF,sG,↓reduceIte]
            refine Ax (by kernel_rfl) rfl hw3 (by first | exact .inl rfl | exact .inr (.inl rfl)) ?_
            simp (disch:=(first | omega | (simp only [List.length_set]; omega))) only [hwt,eq_self,decide_true,amL,sA,sF,↓reduceIte]
            refine hK25 _ ?_
            refine Ab fun K26 hK26=>?_
            refine Ad fun K27 hK27=>?_
            simp (disch:=(first | omega | (simp only [List.length_set]; omega))) only [ne_eq,eq_self,not_true_eq_false,decide_false,decide_true,amL,amT,sA,sF,sO,↓reduceIte]
            refine hK27 _ ?_
            refine Al rfl (fun h=>MT.x ?_) (fun h=>ME.x ?_)
            all_goals
             first
             |refine MT.mk ?_
              first
              |exact Bool.noConfusion h
              |((try simp only [] at h) ; exfalso ; omega)
              |skip
               try simp only [] at h
               refine Ad fun K28 hK28=>?_
               simp (disch:=(first | omega | (simp only [List.length_set]; omega))) only [eq_self,decide_false,decide_true,amL,amT,sA,sF,sG,sO,↓reduceIte]
               repeat' first | (refine Eo (fun h=>?_) (fun h=>?_) <;> simp (disch:=(first | omega | (simp only [List.length_set]; omega))) only [h,W2,Bhs,AV.frz,AO.frz,AV.frz.frzL,hq,hll,hbr,hm4,hd4,hmj,hb1,hb2,hb3,w0,w1,w2,hmk,hmk2,hTv,hTs,hm99,hm0s,hmacI,hul,hwt,hA0,hA1,hE0,hE1,hB1,hB2,hB3,hfx,Bg4,Bg3,Di,X9,Bg5,Bg6,Bhb,Bhc,List.set_set,List.length_set,Bg9,Bg7,Bg2,ne_eq,eq_self,not_true_eq_false,decide_false,decide_true,List.length_map,amL,amT,sA,sB,sC,sD,sE,sF,sG,sH,sI,sJ,sK,sL,sM,sN,sO,↓reduceIte,reduceCtorEq]) | (refine Cy (fun h=>?_) (fun h=>?_) <;> simp (disch:=(first | omega | (simp only [List.length_set]; omega))) only [h,W2,Bhs,AV.frz,AO.frz,AV.frz.frzL,hq,hll,hbr,hm4,hd4,hmj,hb1,hb2,hb3,w0,w1,w2,hmk,hmk2,hTv,hTs,hm99,hm0s,hmacI,hul,hwt,hA0,hA1,hE0,hE1,hB1,hB2,hB3,hfx,Bg4,Bg3,Di,X9,Bg5,Bg6,Bhb,Bhc,List.set_set,List.length_set,Bg9,Bg7,Bg2,ne_eq,eq_self,not_true_eq_false,decide_false,decide_true,List.length_map,amL,amT,sA,sB,sC,sD,sE,sF,sG,sH,sI,sJ,sK,sL,sM,sN,sO,↓reduceIte,reduceCtorEq]) | (refine Ax (by kernel_rfl) rfl (Bgn) (by first | exact .inl rfl | exact .inr (.inl rfl)) ?_ ; simp (disch:=(first | omega | (simp only [List.length_set]; omega))) only [eq_self,decide_true,amL,sA,sF,↓reduceIte])
               all_goals
                skip
                refine hK28 _ ?_
                refine Aj ?_
                try simp (disch:=(first | omega | (simp only [List.length_set]; omega))) only [eq_self,amL,↓reduceIte]
                all_goals first | rfl | (exfalso; omega) | trace_state
             |refine ME.mk ?_
              first
              |exact Bool.noConfusion h
              |((try simp only [] at h) ; exfalso ; omega)
              |skip
               try simp only [] at h
               refine Am ?_
               refine hK26 _ ?_
            all_goals
             skip
             refine Ab fun K29 hK29=>?_
             refine Ad fun K30 hK30=>?_
             simp (disch:=(first | omega | (simp only [List.length_set]; omega))) only [Bg2,ne_eq,eq_self,not_true_eq_false,decide_false,decide_true,List.length_map,amL,amT,sA,sF,↓reduceIte,reduceCtorEq]
             repeat' first | (refine Eo (fun h=>?_) (fun h=>?_) <;> simp (disch:=(first | omega | (simp only [List.length_set]; omega))) only [h,hul,ne_eq,eq_self,not_true_eq_false,decide_false,decide_true,List.length_map,amL,amT,sA,sF,↓reduceIte]) | (refine Cy (fun h=>?_) (fun h=>?_) <;> simp (disch:=(first | omega | (simp only [List.length_set]; omega))) only [h,W2,Bhs,AV.frz,AO.frz,AV.frz.frzL,hq,hll,hbr,hm4,hd4,hmj,hb1,hb2,hb3,w0,w1,w2,hmk,hmk2,hTv,hTs,hm99,hm0s,hmacI,hul,hwt,hA0,hA1,hE0,hE1,hB1,hB2,hB3,hfx,Bg4,Bg3,Di,X9,Bg5,Bg6,Bhb,Bhc,List.set_set,List.length_set,Bg9,Bg7,Bg2,ne_eq,eq_self,not_true_eq_false,decide_false,decide_true,List.length_map,amL,amT,sA,sB,sC,sD,sE,sF,sG,sH,sI,sJ,sK,sL,sM,sN,sO,↓reduceIte,reduceCtorEq])
             all_goals
              skip
              refine hK30 _ ?_
              refine Al rfl (fun h=>MT.x ?_) (fun h=>ME.x ?_)
              all_goals
               first
               |refine MT.mk ?_
                first
                |exact Bool.noConfusion h
                |((try simp only [] at h) ; exfalso ; omega)
                |skip
                 try simp only [nrm] at h
                 refine Ad fun K31 hK31=>?_
                 simp (disch:=(first | omega | (simp only [List.length_set]; omega))) only [W2,Bhs,AV.frz,AO.frz,AV.frz.frzL,hq,hll,hbr,hm4,hd4,hmj,hb1,hb2,hb3,w0,w1,w2,hmk,hmk2,hTv,hTs,hm99,hm0s,hmacI,hul,hwt,hA0,hA1,hE0,hE1,hB1,hB2,hB3,hfx,Bg4,Bg3,Di,X9,Bg5,Bg6,Bhb,Bhc,List.set_set,List.length_set,Bg9,Bg7,Bg2,ne_eq,eq_self,not_true_eq_false,decide_false,decide_true,List.length_map,amL,amT,sA,sB,sC,sD,sE,sF,sG,sH,sI,sJ,sK,sL,sM,sN,sO,↓reduceIte,reduceCtorEq]
                 refine hK31 _ ?_
                 refine Aj ?_
                 try simp (disch:=(first | omega | (simp only [List.length_set]; omega))) only [W2,Bhs,AV.frz,AO.frz,AV.frz.frzL,hq,hll,hbr,hm4,hd4,hmj,hb1,hb2,hb3,w0,w1,w2,hmk,hmk2,hTv,hTs,hm99,hm0s,hmacI,hul,hwt,hA0,hA1,hE0,hE1,hB1,hB2,hB3,hfx,Bg4,Bg3,Di,X9,Bg5,Bg6,Bhb,Bhc,List.set_set,List.length_set,Bg9,Bg7,Bg2,ne_eq,eq_self,not_true_eq_false,decide_false,decide_true,List.length_map,amL,amT,sA,sB,sC,sD,sE,sF,sG,sH,sI,sJ,sK,sL,sM,sN,sO,↓reduceIte,reduceCtorEq]
                 all_goals first | rfl | (exfalso; omega) | trace_state
               |refine ME.mk ?_
                first
                |exact Bool.noConfusion h
                |((try simp only [] at h) ; exfalso ; omega)
                |skip
                 try simp only [] at h
                 refine Am ?_
                 refine hK29 _ ?_
              all_goals
               skip
               refine Ab fun K32 hK32=>?_
               refine Ad fun K33 hK33=>?_
               simp (disch:=(first | omega | (simp only [List.length_set]; omega))) only [eq_self,decide_true,amL,sA]
               refine hK33 _ ?_
               refine Ar ?_
               skip
               refine Bg (α:=Nat) (fun k=>⟨T [(24,.p (.sl ((Bin b).map Bhm))),(26,.p (.sl ((Bin x).map Bhm))),(32,i64 (k:Int))],O []⟩) (fun k=>b.vs.length - k) (fun k=>k≤b.vs.length) 0 ?_ ?_ (fun k hx34 K34 hK34=>?_)
               · exact Nat.zero_le _
               · refine Df ?_ ?_ ?_ ?_ <;> (try simp (disch:=(first | omega | (simp only [List.length_set]; omega))) only [eq_self,amL,sF,↓reduceIte]); all_goals first | rfl | trace_state
               have hkk:=hx34
               refine Ab fun K35 hK35=>?_
               refine Ad fun K36 hK36=>?_
               simp (disch:=(first | omega | (simp only [List.length_set]; omega))) only [Bg2,eq_self,decide_true,List.length_map,amL,amT,sA,sF,↓reduceIte]
               refine hK36 _ ?_
               refine Al rfl (fun h=>MT.x ?_) (fun h=>ME.x ?_)
               all_goals
                first
                |refine MT.mk ?_
                 first
                 |exact Bool.noConfusion h
                 |((try simp only [nrm] at h) ; exfalso ; omega)
                 |skip
                  try simp only [nrm] at h
                  refine Am ?_
                  refine hK35 _ ?_
                |refine ME.mk ?_
                 first
                 |exact Bool.noConfusion h
                 |((try simp only [nrm] at h) ; exfalso ; omega)
                 |skip
                  try simp only [nrm] at h
                  refine Bq ?_
                  refine hK32 _ ?_
                  refine Ad fun K37 hK37=>?_
                  simp (disch:=(first | omega | (simp only [List.length_set]; omega))) only [amL,sG]
                  repeat' first | (refine Ax (by kernel_rfl) rfl (Bgn) (by first | exact .inl rfl | exact .inr (.inl rfl)) ?_ ; simp (disch:=(first | omega | (simp only [List.length_set]; omega))) only [eq_self,decide_true,amL,sA,↓reduceIte])
                  refine hK37 _ ?_
                  refine Aj ?_
                  try simp (disch:=(first | omega | (simp only [List.length_set]; omega))) only [eq_self,amL,↓reduceIte]
                  all_goals first | rfl | (exfalso; omega) | trace_state
               all_goals
                skip
                refine Ab fun K38 hK38=>?_
                refine Ar ?_
                refine Ab fun K39 hK39=>?_
                refine Ch (by kernel_rfl) (by kernel_rfl) ?_
                simp (disch:=(first | omega | (simp only [List.length_set]; omega))) only [Bg9,Bg2,eq_self,decide_true,List.length_map,amL,amT,sA,sB,sE,sF,sG,↓reduceIte,reduceCtorEq]
                repeat' first | (refine Eo (fun h=>?_) (fun h=>?_) <;> simp (disch:=(first | omega | (simp only [List.length_set]; omega))) only [h,W2,Bhs,AV.frz,AO.frz,AV.frz.frzL,hq,hll,hbr,hm4,hd4,hmj,hb1,hb2,hb3,w0,w1,w2,hmk,hmk2,hTv,hTs,hm99,hm0s,hmacI,hul,hwt,hA0,hA1,hE0,hE1,hB1,hB2,hB3,hfx,Bg4,Bg3,Di,X9,Bg5,Bg6,Bhb,Bhc,List.set_set,List.length_set,Bg9,Bg7,Bg2,ne_eq,eq_self,not_true_eq_false,decide_false,decide_true,List.length_map,amL,amT,sA,sB,sC,sD,sE,sF,sG,sH,sI,sJ,sK,sL,sM,sN,sO,↓reduceIte,reduceCtorEq]) | (refine Cy (fun h=>?_) (fun h=>?_) <;> simp (disch:=(first | omega | (simp only [List.length_set]; omega))) only [h,W2,Bhs,AV.frz,AO.frz,AV.frz.frzL,hq,hll,hbr,hm4,hd4,hmj,hb1,hb2,hb3,w0,w1,w2,hmk,hmk2,hTv,hTs,hm99,hm0s,hmacI,hul,hwt,hA0,hA1,hE0,hE1,hB1,hB2,hB3,hfx,Bg4,Bg3,Di,X9,Bg5,Bg6,Bhb,Bhc,List.set_set,List.length_set,Bg9,Bg7,Bg2,ne_eq,eq_self,not_true_eq_false,decide_false,decide_true,List.length_map,amL,amT,sA,sB,sC,sD,sE,sF,sG,sH,sI,sJ,sK,sL,sM,sN,sO,↓reduceIte,reduceCtorEq]) | (refine Ax (by kernel_rfl) rfl (by first | exact Bja (Bhf b k).g (Bhf x k).g | exact Bja (Bhf b k).e (Bhf x k).e | exact Bja (Bhf b k).k (Bhf x k).k) (by first | exact .inl rfl | exact .inr (.inl rfl)) ?_ ; simp (disch:=(first | omega | (simp only [List.length_set]; omega))) only [hB1,hB2,hB3,Bg9,Bg2,eq_self,decide_true,List.length_map,amL,amT,sA,sB,sE,sF,sG,↓reduceIte,reduceCtorEq])
                all_goals
                 skip
                 refine hK39 _ ?_
                 refine Al rfl (fun h=>MT.x ?_) (fun h=>ME.x ?_)
                 all_goals
                  first
                  |refine MT.mk ?_
                   first
                   |exact Bool.noConfusion h
                   |((try simp only [nrm] at h) ; exfalso ; omega)
                   |skip
                    try simp only [nrm] at h
                    refine Ad fun K40 hK40=>?_
                    simp (disch:=(first | omega | (simp only [List.length_set]; omega))) only [W2,Bhs,AV.frz,AO.frz,AV.frz.frzL,hq,hll,hbr,hm4,hd4,hmj,hb1,hb2,hb3,w0,w1,w2,hmk,hmk2,hTv,hTs,hm99,hm0s,hmacI,hul,hwt,hA0,hA1,hE0,hE1,hB1,hB2,hB3,hfx,Bg4,Bg3,Di,X9,Bg5,Bg6,Bhb,Bhc,List.set_set,List.length_set,Bg9,Bg7,Bg2,ne_eq,eq_self,not_true_eq_false,decide_false,decide_true,List.length_map,amL,amT,sA,sB,sC,sD,sE,sF,sG,sH,sI,sJ,sK,sL,sM,sN,sO,↓reduceIte,reduceCtorEq]
                    refine hK40 _ ?_
                    refine Aj ?_
                    try simp (disch:=(first | omega | (simp only [List.length_set]; omega))) only [W2,Bhs,AV.frz,AO.frz,AV.frz.frzL,hq,hll,hbr,hm4,hd4,hmj,hb1,hb2,hb3,w0,w1,w2,hmk,hmk2,hTv,hTs,hm99,hm0s,hmacI,hul,hwt,hA0,hA1,hE0,hE1,hB1,hB2,hB3,hfx,Bg4,Bg3,Di,X9,Bg5,Bg6,Bhb,Bhc,List.set_set,List.length_set,Bg9,Bg7,Bg2,ne_eq,eq_self,not_true_eq_false,decide_false,decide_true,List.length_map,amL,amT,sA,sB,sC,sD,sE,sF,sG,sH,sI,sJ,sK,sL,sM,sN,sO,↓reduceIte,reduceCtorEq]
                    all_goals first | rfl | (exfalso; omega) | trace_state
                  |refine ME.mk ?_
                   first
                   |exact Bool.noConfusion h
                   |((try simp only [] at h) ; exfalso ; omega)
                   |skip
                    try simp only [] at h
                    refine Am ?_
                    refine hK38 _ ?_
                 all_goals
                  skip
                  refine Ah ?_
                  simp (disch:=(first | omega | (simp only [List.length_set]; omega))) only [eq_self,decide_true,amL,amT,sA,sF,↓reduceIte]
                  refine hK34 (k+1) _ ?_ ?_ (Df ?_ ?_ ?_ ?_)
                  all_goals (try simp (disch:=(first | omega | (simp only [List.length_set]; omega))) only [eq_self,amL,sF,↓reduceIte])
                  all_goals first | omega | trace_state
end AM.Try
end
